/- J21 -/
import Derived.Test.YtnlhpdbijmnkhaaGreatDoorText1
import Derived.Test.YtnlhpdbijmnkhaaGreatDoorJ03
import Derived.Test.YtnlhpdbijmnkhaaGreatDoorJ20
import Derived.Test.YtnlhpdbijmnkhaaGreatDoorJ01
set_option linter.unusedVariables false
set_option linter.unusedSimpArgs false
set_option maxRecDepth 100000
namespace Go.Proofs.YtnlhpdbijmnkhaaGreatDoor
open Go.Proofs.Tryz
open Go.ChangeShapes Go.WideShapes Go.RowKit
theorem sN(x:Int)(w:World)(b:Bool)(hb:ac x 0 1000000=b):
  Calls Tryz.prog 37 #[.int .i64 x] w λe w'=>e= .returned (.bool b)/\w=w':=by
 have H:=Lib.hid hb
 clear hb
 go_enter Tryz.func37,Tryz.ntmps37
 go_wp2_with (go_at_call 36;refine(gQ _ _ _ _ b H.out).mono ?_;rintro e w' ⟨rfl,rfl⟩)
 go_ret
 exact⟨rfl,rfl⟩
theorem bl(x:Int)(w:World)(b:Bool)(hb:ac x 0 9=b):
  Calls Tryz.prog 82 #[.int .i64 x] w λe w'=>e= .returned (.bool b)/\w=w':=by
 have H:=Lib.hid hb
 clear hb
 go_enter Tryz.func82,Tryz.ntmps82
 go_wp2_with (go_at_call 85;refine(br _ _ _ _ b H.out).mono ?_;rintro e w' ⟨rfl,rfl⟩)
 go_ret
 exact⟨rfl,rfl⟩
theorem cr(x:Int)(w:World)(b:Bool)(hb:ac x 0 999=b):
  Calls Tryz.prog 86 #[.int .i64 x] w λe w'=>e= .returned (.bool b)/\w=w':=by
 have H:=Lib.hid hb
 clear hb
 go_enter Tryz.func86,Tryz.ntmps86
 go_wp2_with (go_at_call 85;refine(br _ _ _ _ b H.out).mono ?_;rintro e w' ⟨rfl,rfl⟩)
 go_ret
 exact⟨rfl,rfl⟩
theorem bY(x:Int)(w:World)(b:Bool)(hb:ac x 1 20=b):
  Calls Tryz.prog 117 #[.int .i64 x] w λe w'=>e= .returned (.bool b)/\w=w':=by
 have H:=Lib.hid hb
 clear hb
 go_enter Tryz.func117,Tryz.ntmps117
 go_wp2_with (go_at_call 85;refine(br _ _ _ _ b H.out).mono ?_;rintro e w' ⟨rfl,rfl⟩)
 go_ret
 exact⟨rfl,rfl⟩
theorem vG(x:Int)(w:World)(b:Bool)(hb:ac x 1 2000=b):
  Calls Tryz.prog 153 #[.int .i64 x] w λe w'=>e= .returned (.bool b)/\w=w':=by
 have H:=Lib.hid hb
 clear hb
 go_enter Tryz.func153,Tryz.ntmps153
 go_wp2_with (go_at_call 85;refine(br _ _ _ _ b H.out).mono ?_;rintro e w' ⟨rfl,rfl⟩)
 go_ret
 exact⟨rfl,rfl⟩
theorem sj(x:Int)(w:World)(b:Bool)(hb:ac x 1 2000=b):
  Calls Tryz.prog 154 #[.int .i64 x] w λe w'=>e= .returned (.bool b)/\w=w':=by
 have H:=Lib.hid hb
 clear hb
 go_enter Tryz.func154,Tryz.ntmps154
 go_wp2_with (go_at_call 85;refine(br _ _ _ _ b H.out).mono ?_;rintro e w' ⟨rfl,rfl⟩)
 go_ret
 exact⟨rfl,rfl⟩
theorem dM(x:Int)(w:World)(b:Bool)(hb:ac x 0 1000000=b):
  Calls Tryz.prog 63 #[.int .i64 x] w λe w'=>e= .returned (.bool b)/\w=w':=by
 have H:=Lib.hid hb
 clear hb
 go_enter Tryz.func63,Tryz.ntmps63
 go_wp2_with (go_at_call 85;refine(br _ _ _ _ b H.out).mono ?_;rintro e w' ⟨rfl,rfl⟩)
 go_ret
 exact⟨rfl,rfl⟩
theorem rR(x:Int)(w:World)(b:Bool)(hb:ac x 2 5=b):
  Calls Tryz.prog 152 #[.int .i64 x] w λe w'=>e= .returned (.bool b)/\w=w':=by
 have H:=Lib.hid hb
 clear hb
 go_enter Tryz.func152,Tryz.ntmps152
 go_wp2_with (go_at_call 85;refine(br _ _ _ _ b H.out).mono ?_;rintro e w' ⟨rfl,rfl⟩)
 go_ret
 exact⟨rfl,rfl⟩
def dd(o:DOp):Bool:=
 if o.kind=1 then ac o.a 0 9&&ac o.b 0 999&&(o.c==0)&&(o.d==0)
 else if o.kind=2 then ac o.a 0 9&&(o.b==0)&&(o.c==0)&&(o.d==0)
 else if o.kind=3 then ac o.a 1 20&&ac o.b 0 1000000&&ac o.c 0 9&&ac o.d 0 999
 else if o.kind=4 then ac o.a 1 20&&ac o.b 0 1000&&(o.c==0)&&(o.d==0)
 else if o.kind=5 then ac o.a 1 1000&&(o.b==0)&&(o.c==0)&&(o.d==0)
 else false
theorem DI(o_a o_b o_c o_d:Int)(w:World)(b:Bool)(hb:b=dd ⟨1,o_a,o_b,o_c,o_d⟩):
  Calls Tryz.prog 84 #[.agg #[.int .i64 1,.int .i64 o_a,.int .i64 o_b,.int .i64 o_c,.int .i64 o_d]] w λe w'=>e= .returned (.bool b)/\Below w.heap.size w w':=by
 cases qa:ac o_a 0 9
 ·have hv:b=false:=by rw[hb];simp[dd, *]
  subst hv
  clear hb
  have Ha:=Lib.hid qa
  clear qa
  go_enter Tryz.func84,Tryz.ntmps84
  go_wp2_with (first|(go_at_call 82;refine(bl _ _ false Ha.out).mono ?_;rintro e w2 ⟨rfl,rfl⟩))
  go_ret
  exact⟨by first|rfl|simp,(by repeat (first|with_reducible exact Below.refl _ _|with_reducible assumption|(with_reducible refine Below.drew ?_)|(with_reducible refine Below.alloc ?_ (by first|with_reducible exact Nat.le_refl _|omega|(simp;done)|(simp;omega)|(simp[World.setCell];omega)|(simp[World.setCell];done)) _)|(with_reducible refine Below.setCell ?_ (by first|with_reducible exact Nat.le_refl _|omega|(simp;done)|(simp;omega)|(simp[World.setCell];omega)|(simp[World.setCell];done)) _)))⟩
 ·cases qb:ac o_b 0 999
  ·have hv:b=false:=by rw[hb];simp[dd, *]
   subst hv
   clear hb
   have Ha:=Lib.hid qa
   clear qa
   have Hb:=Lib.hid qb
   clear qb
   go_enter Tryz.func84,Tryz.ntmps84
   go_wp2_with (first|(go_at_call 82;refine(bl _ _ true Ha.out).mono ?_;rintro e w2 ⟨rfl,rfl⟩)|(go_at_call 86;refine(cr _ _ false Hb.out).mono ?_;rintro e w2 ⟨rfl,rfl⟩))
   go_ret
   exact⟨by first|rfl|simp,(by repeat (first|with_reducible exact Below.refl _ _|with_reducible assumption|(with_reducible refine Below.drew ?_)|(with_reducible refine Below.alloc ?_ (by first|with_reducible exact Nat.le_refl _|omega|(simp;done)|(simp;omega)|(simp[World.setCell];omega)|(simp[World.setCell];done)) _)|(with_reducible refine Below.setCell ?_ (by first|with_reducible exact Nat.le_refl _|omega|(simp;done)|(simp;omega)|(simp[World.setCell];omega)|(simp[World.setCell];done)) _)))⟩
  ·cases qc:(o_c==0)
   ·have hv:b=false:=by rw[hb];simp[dd, *]
    subst hv
    clear hb
    have Ha:=Lib.hid qa
    clear qa
    have Hb:=Lib.hid qb
    clear qb
    go_enter Tryz.func84,Tryz.ntmps84
    go_wp2_with (first|(go_at_call 82;refine(bl _ _ true Ha.out).mono ?_;rintro e w2 ⟨rfl,rfl⟩)|(go_at_call 86;refine(cr _ _ true Hb.out).mono ?_;rintro e w2 ⟨rfl,rfl⟩))
    go_ret
    exact⟨by first|rfl|simp,(by repeat (first|with_reducible exact Below.refl _ _|with_reducible assumption|(with_reducible refine Below.drew ?_)|(with_reducible refine Below.alloc ?_ (by first|with_reducible exact Nat.le_refl _|omega|(simp;done)|(simp;omega)|(simp[World.setCell];omega)|(simp[World.setCell];done)) _)|(with_reducible refine Below.setCell ?_ (by first|with_reducible exact Nat.le_refl _|omega|(simp;done)|(simp;omega)|(simp[World.setCell];omega)|(simp[World.setCell];done)) _)))⟩
   ·cases qd:(o_d==0)
    ·have hv:b=false:=by rw[hb];simp[dd, *]
     subst hv
     clear hb
     have Ha:=Lib.hid qa
     clear qa
     have Hb:=Lib.hid qb
     clear qb
     go_enter Tryz.func84,Tryz.ntmps84
     go_wp2_with (first|(go_at_call 82;refine(bl _ _ true Ha.out).mono ?_;rintro e w2 ⟨rfl,rfl⟩)|(go_at_call 86;refine(cr _ _ true Hb.out).mono ?_;rintro e w2 ⟨rfl,rfl⟩))
     go_ret
     exact⟨by first|rfl|simp,(by repeat (first|with_reducible exact Below.refl _ _|with_reducible assumption|(with_reducible refine Below.drew ?_)|(with_reducible refine Below.alloc ?_ (by first|with_reducible exact Nat.le_refl _|omega|(simp;done)|(simp;omega)|(simp[World.setCell];omega)|(simp[World.setCell];done)) _)|(with_reducible refine Below.setCell ?_ (by first|with_reducible exact Nat.le_refl _|omega|(simp;done)|(simp;omega)|(simp[World.setCell];omega)|(simp[World.setCell];done)) _)))⟩
    ·have hv:b=true:=by rw[hb];simp[dd, *]
     subst hv
     clear hb
     have Ha:=Lib.hid qa
     clear qa
     have Hb:=Lib.hid qb
     clear qb
     go_enter Tryz.func84,Tryz.ntmps84
     go_wp2_with (first|(go_at_call 82;refine(bl _ _ true Ha.out).mono ?_;rintro e w2 ⟨rfl,rfl⟩)|(go_at_call 86;refine(cr _ _ true Hb.out).mono ?_;rintro e w2 ⟨rfl,rfl⟩))
     go_ret
     exact⟨by first|rfl|simp,(by repeat (first|with_reducible exact Below.refl _ _|with_reducible assumption|(with_reducible refine Below.drew ?_)|(with_reducible refine Below.alloc ?_ (by first|with_reducible exact Nat.le_refl _|omega|(simp;done)|(simp;omega)|(simp[World.setCell];omega)|(simp[World.setCell];done)) _)|(with_reducible refine Below.setCell ?_ (by first|with_reducible exact Nat.le_refl _|omega|(simp;done)|(simp;omega)|(simp[World.setCell];omega)|(simp[World.setCell];done)) _)))⟩
theorem DJ(o_a o_b o_c o_d:Int)(w:World)(b:Bool)(hb:b=dd ⟨2,o_a,o_b,o_c,o_d⟩):
  Calls Tryz.prog 84 #[.agg #[.int .i64 2,.int .i64 o_a,.int .i64 o_b,.int .i64 o_c,.int .i64 o_d]] w λe w'=>e= .returned (.bool b)/\Below w.heap.size w w':=by
 cases qa:ac o_a 0 9
 ·have hv:b=false:=by rw[hb];simp[dd, *]
  subst hv
  clear hb
  have Ha:=Lib.hid qa
  clear qa
  go_enter Tryz.func84,Tryz.ntmps84
  go_wp2_with (first|(go_at_call 82;refine(bl _ _ false Ha.out).mono ?_;rintro e w2 ⟨rfl,rfl⟩))
  go_ret
  exact⟨by first|rfl|simp,(by repeat (first|with_reducible exact Below.refl _ _|with_reducible assumption|(with_reducible refine Below.drew ?_)|(with_reducible refine Below.alloc ?_ (by first|with_reducible exact Nat.le_refl _|omega|(simp;done)|(simp;omega)|(simp[World.setCell];omega)|(simp[World.setCell];done)) _)|(with_reducible refine Below.setCell ?_ (by first|with_reducible exact Nat.le_refl _|omega|(simp;done)|(simp;omega)|(simp[World.setCell];omega)|(simp[World.setCell];done)) _)))⟩
 ·cases qb:(o_b==0)
  ·have hv:b=false:=by rw[hb];simp[dd, *]
   subst hv
   clear hb
   have Ha:=Lib.hid qa
   clear qa
   go_enter Tryz.func84,Tryz.ntmps84
   go_wp2_with (first|(go_at_call 82;refine(bl _ _ true Ha.out).mono ?_;rintro e w2 ⟨rfl,rfl⟩))
   go_ret
   exact⟨by first|rfl|simp,(by repeat (first|with_reducible exact Below.refl _ _|with_reducible assumption|(with_reducible refine Below.drew ?_)|(with_reducible refine Below.alloc ?_ (by first|with_reducible exact Nat.le_refl _|omega|(simp;done)|(simp;omega)|(simp[World.setCell];omega)|(simp[World.setCell];done)) _)|(with_reducible refine Below.setCell ?_ (by first|with_reducible exact Nat.le_refl _|omega|(simp;done)|(simp;omega)|(simp[World.setCell];omega)|(simp[World.setCell];done)) _)))⟩
  ·cases qc:(o_c==0)
   ·have hv:b=false:=by rw[hb];simp[dd, *]
    subst hv
    clear hb
    have Ha:=Lib.hid qa
    clear qa
    go_enter Tryz.func84,Tryz.ntmps84
    go_wp2_with (first|(go_at_call 82;refine(bl _ _ true Ha.out).mono ?_;rintro e w2 ⟨rfl,rfl⟩))
    go_ret
    exact⟨by first|rfl|simp,(by repeat (first|with_reducible exact Below.refl _ _|with_reducible assumption|(with_reducible refine Below.drew ?_)|(with_reducible refine Below.alloc ?_ (by first|with_reducible exact Nat.le_refl _|omega|(simp;done)|(simp;omega)|(simp[World.setCell];omega)|(simp[World.setCell];done)) _)|(with_reducible refine Below.setCell ?_ (by first|with_reducible exact Nat.le_refl _|omega|(simp;done)|(simp;omega)|(simp[World.setCell];omega)|(simp[World.setCell];done)) _)))⟩
   ·cases qd:(o_d==0)
    ·have hv:b=false:=by rw[hb];simp[dd, *]
     subst hv
     clear hb
     have Ha:=Lib.hid qa
     clear qa
     go_enter Tryz.func84,Tryz.ntmps84
     go_wp2_with (first|(go_at_call 82;refine(bl _ _ true Ha.out).mono ?_;rintro e w2 ⟨rfl,rfl⟩))
     go_ret
     exact⟨by first|rfl|simp,(by repeat (first|with_reducible exact Below.refl _ _|with_reducible assumption|(with_reducible refine Below.drew ?_)|(with_reducible refine Below.alloc ?_ (by first|with_reducible exact Nat.le_refl _|omega|(simp;done)|(simp;omega)|(simp[World.setCell];omega)|(simp[World.setCell];done)) _)|(with_reducible refine Below.setCell ?_ (by first|with_reducible exact Nat.le_refl _|omega|(simp;done)|(simp;omega)|(simp[World.setCell];omega)|(simp[World.setCell];done)) _)))⟩
    ·have hv:b=true:=by rw[hb];simp[dd, *]
     subst hv
     clear hb
     have Ha:=Lib.hid qa
     clear qa
     go_enter Tryz.func84,Tryz.ntmps84
     go_wp2_with (first|(go_at_call 82;refine(bl _ _ true Ha.out).mono ?_;rintro e w2 ⟨rfl,rfl⟩))
     go_ret
     exact⟨by first|rfl|simp,(by repeat (first|with_reducible exact Below.refl _ _|with_reducible assumption|(with_reducible refine Below.drew ?_)|(with_reducible refine Below.alloc ?_ (by first|with_reducible exact Nat.le_refl _|omega|(simp;done)|(simp;omega)|(simp[World.setCell];omega)|(simp[World.setCell];done)) _)|(with_reducible refine Below.setCell ?_ (by first|with_reducible exact Nat.le_refl _|omega|(simp;done)|(simp;omega)|(simp[World.setCell];omega)|(simp[World.setCell];done)) _)))⟩
theorem DK(o_a o_b o_c o_d:Int)(w:World)(b:Bool)(hb:b=dd ⟨3,o_a,o_b,o_c,o_d⟩):
  Calls Tryz.prog 84 #[.agg #[.int .i64 3,.int .i64 o_a,.int .i64 o_b,.int .i64 o_c,.int .i64 o_d]] w λe w'=>e= .returned (.bool b)/\Below w.heap.size w w':=by
 cases qa:ac o_a 1 20
 ·have hv:b=false:=by rw[hb];simp[dd, *]
  subst hv
  clear hb
  have Ha:=Lib.hid qa
  clear qa
  go_enter Tryz.func84,Tryz.ntmps84
  go_wp2_with (first|(go_at_call 117;refine(bY _ _ false Ha.out).mono ?_;rintro e w2 ⟨rfl,rfl⟩))
  go_ret
  exact⟨by first|rfl|simp,(by repeat (first|with_reducible exact Below.refl _ _|with_reducible assumption|(with_reducible refine Below.drew ?_)|(with_reducible refine Below.alloc ?_ (by first|with_reducible exact Nat.le_refl _|omega|(simp;done)|(simp;omega)|(simp[World.setCell];omega)|(simp[World.setCell];done)) _)|(with_reducible refine Below.setCell ?_ (by first|with_reducible exact Nat.le_refl _|omega|(simp;done)|(simp;omega)|(simp[World.setCell];omega)|(simp[World.setCell];done)) _)))⟩
 ·cases qb:ac o_b 0 1000000
  ·have hv:b=false:=by rw[hb];simp[dd, *]
   subst hv
   clear hb
   have Ha:=Lib.hid qa
   clear qa
   have Hb:=Lib.hid qb
   clear qb
   go_enter Tryz.func84,Tryz.ntmps84
   go_wp2_with (first|(go_at_call 117;refine(bY _ _ true Ha.out).mono ?_;rintro e w2 ⟨rfl,rfl⟩)|(go_at_call 63;refine(dM _ _ false Hb.out).mono ?_;rintro e w2 ⟨rfl,rfl⟩))
   go_ret
   exact⟨by first|rfl|simp,(by repeat (first|with_reducible exact Below.refl _ _|with_reducible assumption|(with_reducible refine Below.drew ?_)|(with_reducible refine Below.alloc ?_ (by first|with_reducible exact Nat.le_refl _|omega|(simp;done)|(simp;omega)|(simp[World.setCell];omega)|(simp[World.setCell];done)) _)|(with_reducible refine Below.setCell ?_ (by first|with_reducible exact Nat.le_refl _|omega|(simp;done)|(simp;omega)|(simp[World.setCell];omega)|(simp[World.setCell];done)) _)))⟩
  ·cases qc:ac o_c 0 9
   ·have hv:b=false:=by rw[hb];simp[dd, *]
    subst hv
    clear hb
    have Ha:=Lib.hid qa
    clear qa
    have Hb:=Lib.hid qb
    clear qb
    have Hc:=Lib.hid qc
    clear qc
    go_enter Tryz.func84,Tryz.ntmps84
    go_wp2_with (first|(go_at_call 117;refine(bY _ _ true Ha.out).mono ?_;rintro e w2 ⟨rfl,rfl⟩)|(go_at_call 63;refine(dM _ _ true Hb.out).mono ?_;rintro e w2 ⟨rfl,rfl⟩)|(go_at_call 82;refine(bl _ _ false Hc.out).mono ?_;rintro e w2 ⟨rfl,rfl⟩))
    go_ret
    exact⟨by first|rfl|simp,(by repeat (first|with_reducible exact Below.refl _ _|with_reducible assumption|(with_reducible refine Below.drew ?_)|(with_reducible refine Below.alloc ?_ (by first|with_reducible exact Nat.le_refl _|omega|(simp;done)|(simp;omega)|(simp[World.setCell];omega)|(simp[World.setCell];done)) _)|(with_reducible refine Below.setCell ?_ (by first|with_reducible exact Nat.le_refl _|omega|(simp;done)|(simp;omega)|(simp[World.setCell];omega)|(simp[World.setCell];done)) _)))⟩
   ·cases qd:ac o_d 0 999
    ·have hv:b=false:=by rw[hb];simp[dd, *]
     subst hv
     clear hb
     have Ha:=Lib.hid qa
     clear qa
     have Hb:=Lib.hid qb
     clear qb
     have Hc:=Lib.hid qc
     clear qc
     have Hd:=Lib.hid qd
     clear qd
     go_enter Tryz.func84,Tryz.ntmps84
     go_wp2_with (first|(go_at_call 117;refine(bY _ _ true Ha.out).mono ?_;rintro e w2 ⟨rfl,rfl⟩)|(go_at_call 63;refine(dM _ _ true Hb.out).mono ?_;rintro e w2 ⟨rfl,rfl⟩)|(go_at_call 82;refine(bl _ _ true Hc.out).mono ?_;rintro e w2 ⟨rfl,rfl⟩)|(go_at_call 86;refine(cr _ _ false Hd.out).mono ?_;rintro e w2 ⟨rfl,rfl⟩))
     go_ret
     exact⟨by first|rfl|simp,(by repeat (first|with_reducible exact Below.refl _ _|with_reducible assumption|(with_reducible refine Below.drew ?_)|(with_reducible refine Below.alloc ?_ (by first|with_reducible exact Nat.le_refl _|omega|(simp;done)|(simp;omega)|(simp[World.setCell];omega)|(simp[World.setCell];done)) _)|(with_reducible refine Below.setCell ?_ (by first|with_reducible exact Nat.le_refl _|omega|(simp;done)|(simp;omega)|(simp[World.setCell];omega)|(simp[World.setCell];done)) _)))⟩
    ·have hv:b=true:=by rw[hb];simp[dd, *]
     subst hv
     clear hb
     have Ha:=Lib.hid qa
     clear qa
     have Hb:=Lib.hid qb
     clear qb
     have Hc:=Lib.hid qc
     clear qc
     have Hd:=Lib.hid qd
     clear qd
     go_enter Tryz.func84,Tryz.ntmps84
     go_wp2_with (first|(go_at_call 117;refine(bY _ _ true Ha.out).mono ?_;rintro e w2 ⟨rfl,rfl⟩)|(go_at_call 63;refine(dM _ _ true Hb.out).mono ?_;rintro e w2 ⟨rfl,rfl⟩)|(go_at_call 82;refine(bl _ _ true Hc.out).mono ?_;rintro e w2 ⟨rfl,rfl⟩)|(go_at_call 86;refine(cr _ _ true Hd.out).mono ?_;rintro e w2 ⟨rfl,rfl⟩))
     go_ret
     exact⟨by first|rfl|simp,(by repeat (first|with_reducible exact Below.refl _ _|with_reducible assumption|(with_reducible refine Below.drew ?_)|(with_reducible refine Below.alloc ?_ (by first|with_reducible exact Nat.le_refl _|omega|(simp;done)|(simp;omega)|(simp[World.setCell];omega)|(simp[World.setCell];done)) _)|(with_reducible refine Below.setCell ?_ (by first|with_reducible exact Nat.le_refl _|omega|(simp;done)|(simp;omega)|(simp[World.setCell];omega)|(simp[World.setCell];done)) _)))⟩
theorem DL(o_a o_b o_c o_d:Int)(w:World)(b:Bool)(hb:b=dd ⟨4,o_a,o_b,o_c,o_d⟩):
  Calls Tryz.prog 84 #[.agg #[.int .i64 4,.int .i64 o_a,.int .i64 o_b,.int .i64 o_c,.int .i64 o_d]] w λe w'=>e= .returned (.bool b)/\Below w.heap.size w w':=by
 cases qa:ac o_a 1 20
 ·have hv:b=false:=by rw[hb];simp[dd, *]
  subst hv
  clear hb
  have Ha:=Lib.hid qa
  clear qa
  go_enter Tryz.func84,Tryz.ntmps84
  go_wp2_with (first|(go_at_call 117;refine(bY _ _ false Ha.out).mono ?_;rintro e w2 ⟨rfl,rfl⟩))
  go_ret
  exact⟨by first|rfl|simp,(by repeat (first|with_reducible exact Below.refl _ _|with_reducible assumption|(with_reducible refine Below.drew ?_)|(with_reducible refine Below.alloc ?_ (by first|with_reducible exact Nat.le_refl _|omega|(simp;done)|(simp;omega)|(simp[World.setCell];omega)|(simp[World.setCell];done)) _)|(with_reducible refine Below.setCell ?_ (by first|with_reducible exact Nat.le_refl _|omega|(simp;done)|(simp;omega)|(simp[World.setCell];omega)|(simp[World.setCell];done)) _)))⟩
 ·cases qb:ac o_b 0 1000
  ·have hv:b=false:=by rw[hb];simp[dd, *]
   subst hv
   clear hb
   have Ha:=Lib.hid qa
   clear qa
   have Hb:=Lib.hid qb
   clear qb
   go_enter Tryz.func84,Tryz.ntmps84
   go_wp2_with (first|(go_at_call 117;refine(bY _ _ true Ha.out).mono ?_;rintro e w2 ⟨rfl,rfl⟩)|(go_at_call 85;refine(br _ _ _ _ false Hb.out).mono ?_;rintro e w2 ⟨rfl,rfl⟩))
   go_ret
   exact⟨by first|rfl|simp,(by repeat (first|with_reducible exact Below.refl _ _|with_reducible assumption|(with_reducible refine Below.drew ?_)|(with_reducible refine Below.alloc ?_ (by first|with_reducible exact Nat.le_refl _|omega|(simp;done)|(simp;omega)|(simp[World.setCell];omega)|(simp[World.setCell];done)) _)|(with_reducible refine Below.setCell ?_ (by first|with_reducible exact Nat.le_refl _|omega|(simp;done)|(simp;omega)|(simp[World.setCell];omega)|(simp[World.setCell];done)) _)))⟩
  ·cases qc:(o_c==0)
   ·have hv:b=false:=by rw[hb];simp[dd, *]
    subst hv
    clear hb
    have Ha:=Lib.hid qa
    clear qa
    have Hb:=Lib.hid qb
    clear qb
    go_enter Tryz.func84,Tryz.ntmps84
    go_wp2_with (first|(go_at_call 117;refine(bY _ _ true Ha.out).mono ?_;rintro e w2 ⟨rfl,rfl⟩)|(go_at_call 85;refine(br _ _ _ _ true Hb.out).mono ?_;rintro e w2 ⟨rfl,rfl⟩))
    go_ret
    exact⟨by first|rfl|simp,(by repeat (first|with_reducible exact Below.refl _ _|with_reducible assumption|(with_reducible refine Below.drew ?_)|(with_reducible refine Below.alloc ?_ (by first|with_reducible exact Nat.le_refl _|omega|(simp;done)|(simp;omega)|(simp[World.setCell];omega)|(simp[World.setCell];done)) _)|(with_reducible refine Below.setCell ?_ (by first|with_reducible exact Nat.le_refl _|omega|(simp;done)|(simp;omega)|(simp[World.setCell];omega)|(simp[World.setCell];done)) _)))⟩
   ·cases qd:(o_d==0)
    ·have hv:b=false:=by rw[hb];simp[dd, *]
     subst hv
     clear hb
     have Ha:=Lib.hid qa
     clear qa
     have Hb:=Lib.hid qb
     clear qb
     go_enter Tryz.func84,Tryz.ntmps84
     go_wp2_with (first|(go_at_call 117;refine(bY _ _ true Ha.out).mono ?_;rintro e w2 ⟨rfl,rfl⟩)|(go_at_call 85;refine(br _ _ _ _ true Hb.out).mono ?_;rintro e w2 ⟨rfl,rfl⟩))
     go_ret
     exact⟨by first|rfl|simp,(by repeat (first|with_reducible exact Below.refl _ _|with_reducible assumption|(with_reducible refine Below.drew ?_)|(with_reducible refine Below.alloc ?_ (by first|with_reducible exact Nat.le_refl _|omega|(simp;done)|(simp;omega)|(simp[World.setCell];omega)|(simp[World.setCell];done)) _)|(with_reducible refine Below.setCell ?_ (by first|with_reducible exact Nat.le_refl _|omega|(simp;done)|(simp;omega)|(simp[World.setCell];omega)|(simp[World.setCell];done)) _)))⟩
    ·have hv:b=true:=by rw[hb];simp[dd, *]
     subst hv
     clear hb
     have Ha:=Lib.hid qa
     clear qa
     have Hb:=Lib.hid qb
     clear qb
     go_enter Tryz.func84,Tryz.ntmps84
     go_wp2_with (first|(go_at_call 117;refine(bY _ _ true Ha.out).mono ?_;rintro e w2 ⟨rfl,rfl⟩)|(go_at_call 85;refine(br _ _ _ _ true Hb.out).mono ?_;rintro e w2 ⟨rfl,rfl⟩))
     go_ret
     exact⟨by first|rfl|simp,(by repeat (first|with_reducible exact Below.refl _ _|with_reducible assumption|(with_reducible refine Below.drew ?_)|(with_reducible refine Below.alloc ?_ (by first|with_reducible exact Nat.le_refl _|omega|(simp;done)|(simp;omega)|(simp[World.setCell];omega)|(simp[World.setCell];done)) _)|(with_reducible refine Below.setCell ?_ (by first|with_reducible exact Nat.le_refl _|omega|(simp;done)|(simp;omega)|(simp[World.setCell];omega)|(simp[World.setCell];done)) _)))⟩
theorem DM(o_a o_b o_c o_d:Int)(w:World)(b:Bool)(hb:b=dd ⟨5,o_a,o_b,o_c,o_d⟩):
  Calls Tryz.prog 84 #[.agg #[.int .i64 5,.int .i64 o_a,.int .i64 o_b,.int .i64 o_c,.int .i64 o_d]] w λe w'=>e= .returned (.bool b)/\Below w.heap.size w w':=by
 cases qa:ac o_a 1 1000
 ·have hv:b=false:=by rw[hb];simp[dd, *]
  subst hv
  clear hb
  have Ha:=Lib.hid qa
  clear qa
  go_enter Tryz.func84,Tryz.ntmps84
  go_wp2_with (first|(go_at_call 85;refine(br _ _ _ _ false Ha.out).mono ?_;rintro e w2 ⟨rfl,rfl⟩))
  go_ret
  exact⟨by first|rfl|simp,(by repeat (first|with_reducible exact Below.refl _ _|with_reducible assumption|(with_reducible refine Below.drew ?_)|(with_reducible refine Below.alloc ?_ (by first|with_reducible exact Nat.le_refl _|omega|(simp;done)|(simp;omega)|(simp[World.setCell];omega)|(simp[World.setCell];done)) _)|(with_reducible refine Below.setCell ?_ (by first|with_reducible exact Nat.le_refl _|omega|(simp;done)|(simp;omega)|(simp[World.setCell];omega)|(simp[World.setCell];done)) _)))⟩
 ·cases qb:(o_b==0)
  ·have hv:b=false:=by rw[hb];simp[dd, *]
   subst hv
   clear hb
   have Ha:=Lib.hid qa
   clear qa
   go_enter Tryz.func84,Tryz.ntmps84
   go_wp2_with (first|(go_at_call 85;refine(br _ _ _ _ true Ha.out).mono ?_;rintro e w2 ⟨rfl,rfl⟩))
   go_ret
   exact⟨by first|rfl|simp,(by repeat (first|with_reducible exact Below.refl _ _|with_reducible assumption|(with_reducible refine Below.drew ?_)|(with_reducible refine Below.alloc ?_ (by first|with_reducible exact Nat.le_refl _|omega|(simp;done)|(simp;omega)|(simp[World.setCell];omega)|(simp[World.setCell];done)) _)|(with_reducible refine Below.setCell ?_ (by first|with_reducible exact Nat.le_refl _|omega|(simp;done)|(simp;omega)|(simp[World.setCell];omega)|(simp[World.setCell];done)) _)))⟩
  ·cases qc:(o_c==0)
   ·have hv:b=false:=by rw[hb];simp[dd, *]
    subst hv
    clear hb
    have Ha:=Lib.hid qa
    clear qa
    go_enter Tryz.func84,Tryz.ntmps84
    go_wp2_with (first|(go_at_call 85;refine(br _ _ _ _ true Ha.out).mono ?_;rintro e w2 ⟨rfl,rfl⟩))
    go_ret
    exact⟨by first|rfl|simp,(by repeat (first|with_reducible exact Below.refl _ _|with_reducible assumption|(with_reducible refine Below.drew ?_)|(with_reducible refine Below.alloc ?_ (by first|with_reducible exact Nat.le_refl _|omega|(simp;done)|(simp;omega)|(simp[World.setCell];omega)|(simp[World.setCell];done)) _)|(with_reducible refine Below.setCell ?_ (by first|with_reducible exact Nat.le_refl _|omega|(simp;done)|(simp;omega)|(simp[World.setCell];omega)|(simp[World.setCell];done)) _)))⟩
   ·cases qd:(o_d==0)
    ·have hv:b=false:=by rw[hb];simp[dd, *]
     subst hv
     clear hb
     have Ha:=Lib.hid qa
     clear qa
     go_enter Tryz.func84,Tryz.ntmps84
     go_wp2_with (first|(go_at_call 85;refine(br _ _ _ _ true Ha.out).mono ?_;rintro e w2 ⟨rfl,rfl⟩))
     go_ret
     exact⟨by first|rfl|simp,(by repeat (first|with_reducible exact Below.refl _ _|with_reducible assumption|(with_reducible refine Below.drew ?_)|(with_reducible refine Below.alloc ?_ (by first|with_reducible exact Nat.le_refl _|omega|(simp;done)|(simp;omega)|(simp[World.setCell];omega)|(simp[World.setCell];done)) _)|(with_reducible refine Below.setCell ?_ (by first|with_reducible exact Nat.le_refl _|omega|(simp;done)|(simp;omega)|(simp[World.setCell];omega)|(simp[World.setCell];done)) _)))⟩
    ·have hv:b=true:=by rw[hb];simp[dd, *]
     subst hv
     clear hb
     have Ha:=Lib.hid qa
     clear qa
     go_enter Tryz.func84,Tryz.ntmps84
     go_wp2_with (first|(go_at_call 85;refine(br _ _ _ _ true Ha.out).mono ?_;rintro e w2 ⟨rfl,rfl⟩))
     go_ret
     exact⟨by first|rfl|simp,(by repeat (first|with_reducible exact Below.refl _ _|with_reducible assumption|(with_reducible refine Below.drew ?_)|(with_reducible refine Below.alloc ?_ (by first|with_reducible exact Nat.le_refl _|omega|(simp;done)|(simp;omega)|(simp[World.setCell];omega)|(simp[World.setCell];done)) _)|(with_reducible refine Below.setCell ?_ (by first|with_reducible exact Nat.le_refl _|omega|(simp;done)|(simp;omega)|(simp[World.setCell];omega)|(simp[World.setCell];done)) _)))⟩
theorem xt(o:DOp)(w:World)(b:Bool)(hb:dd o=b):
  Calls Tryz.prog 84 #[.agg #[.int .i64 o.kind,.int .i64 o.a,.int .i64 o.b,.int .i64 o.c,.int .i64 o.d]] w λe w'=>e= .returned (.bool b)/\Below w.heap.size w w':=by
 obtain⟨k,o_a,o_b,o_c,o_d⟩:=o
 by_cases h1:k=1
 ·subst h1;exact DI o_a o_b o_c o_d w b hb.symm
 by_cases h2:k=2
 ·subst h2;exact DJ o_a o_b o_c o_d w b hb.symm
 by_cases h3:k=3
 ·subst h3;exact DK o_a o_b o_c o_d w b hb.symm
 by_cases h4:k=4
 ·subst h4;exact DL o_a o_b o_c o_d w b hb.symm
 by_cases h5:k=5
 ·subst h5;exact DM o_a o_b o_c o_d w b hb.symm
 have hv:b=false:=by rw[<-hb];simp[dd, *]
 subst hv
 clear hb
 have g1:(k==1)=false:=by simpa using h1
 have g2:(k==2)=false:=by simpa using h2
 have g3:(k==3)=false:=by simpa using h3
 have g4:(k==4)=false:=by simpa using h4
 have g5:(k==5)=false:=by simpa using h5
 clear h1 h2 h3 h4 h5
 go_enter Tryz.func84,Tryz.ntmps84
 go_wp2
 go_ret
 exact⟨by first|rfl|simp,(by repeat (first|with_reducible exact Below.refl _ _|with_reducible assumption|(with_reducible refine Below.drew ?_)|(with_reducible refine Below.alloc ?_ (by first|with_reducible exact Nat.le_refl _|omega|(simp;done)|(simp;omega)|(simp[World.setCell];omega)|(simp[World.setCell];done)) _)|(with_reducible refine Below.setCell ?_ (by first|with_reducible exact Nat.le_refl _|omega|(simp;done)|(simp;omega)|(simp[World.setCell];omega)|(simp[World.setCell];done)) _)))⟩
end Go.Proofs.YtnlhpdbijmnkhaaGreatDoor
namespace Go.Proofs.YtnlhpdbijmnkhaaGreatDoor
open Go.Proofs.Tryz
open Go.ChangeShapes Go.WideShapes Go.RowKit
def nC(k:Int):List UInt8:=if k=1 then [112,117,116]else if k=2 then [99,117,116]else if k=3 then [106,111,98]else if k=4 then [102,105,114,101]else if k=5 then [108,101,97,115,101]else []
def nB(k:Int):Nat:=if k=1 then 2 else if k=2 then 1 else if k=3 then 4 else if k=4 then 2 else if k=5 then 1 else 0
def DOp.nums(o:DOp):List Int:=[o.kind,o.a,o.b,o.c,o.d]
end Go.Proofs.YtnlhpdbijmnkhaaGreatDoor
namespace Go.Proofs.YtnlhpdbijmnkhaaGreatDoor
open Go.Proofs.Tryz
open Go.ChangeShapes Go.WideShapes Go.RowKit
section
variable {α:Type} {P:Program}
end
def ze{α:Type}(R:Rep α)(t:TypeId)(l:List α)(w:World)(e:Ending)(w':World):Prop:=
 ∃A cap,e= .returned (.slice A l.length cap)/\c7 R t w.heap.size w' (.slice A l.length cap) l.length l/\Below w.heap.size w w'
theorem ze.sl{α:Type}{R:Rep α}{t:TypeId}{l:List α}{w:World}{e:Ending}{w':World}(h:ze R t l w e w'):D8 R l w e w':=by
 obtain⟨A,cap,rfl,hg,hb⟩:=h
 exact c7.out hg hb
end Go.Proofs.YtnlhpdbijmnkhaaGreatDoor
namespace Go.Proofs.YtnlhpdbijmnkhaaGreatDoor
open Go.Proofs.Tryz
open Go.ChangeShapes Go.WideShapes Go.RowKit
section
variable {α:Type} {P:Program}
end
end Go.Proofs.YtnlhpdbijmnkhaaGreatDoor
namespace Go.Proofs.YtnlhpdbijmnkhaaGreatDoor
open Go.Proofs.Tryz
open Go.ChangeShapes Go.WideShapes Go.RowKit
theorem Row.sub{w:World}{g:Nat}{xs:List Value}(h:Row w (some ⟨g,0,none⟩) xs)(off m:Nat):Row w (some ⟨g,off,none⟩) ((xs.drop off).take m):=by
 intro j hj
 have hj2:off+j<xs.length:=by simp at hj;omega
 obtain⟨b,o,e,hl,hc⟩:=h (off+j) hj2
 injection e with e;injection e with e1 e2 e3
 subst e1 e2
 refine⟨g,off,rfl,hl,λi u hu=>?_⟩
 rw[List.getElem?_take]at hu
 split at hu
 ·rw[List.getElem?_drop]at hu
  have:=hc _ _ hu
  rwa[Nat.zero_add]at this
 ·cases hu
theorem bq{x:Int}(h0: -9223372036854775808<=x)(h1:x<=9223372036854775807):(Lit.int .i64 x).wf=true:=by
 have e1:IntKind.i64.min= -9223372036854775808:=by decide
 have e2:IntKind.i64.max=9223372036854775807:=by decide
 simp only[Lit.wf,e1,e2,Bool.and_eq_true,decide_eq_true_eq]
 omega
end Go.Proofs.YtnlhpdbijmnkhaaGreatDoor
namespace Go.Proofs.YtnlhpdbijmnkhaaGreatDoor
open Go.Proofs.Tryz
open Go.ChangeShapes Go.WideShapes Go.RowKit
def fX(x:Int):ByteArray:=
 if x=0 then⟨#[108,111,103]⟩else if x=1 then⟨#[115,116,111,114,101]⟩else if x=2 then⟨#[108,101,102,116]⟩else if x=3 then⟨#[114,105,103,104,116]⟩else if x=4 then⟨#[97,110,110]⟩else if x=5 then⟨#[98,111,98]⟩else⟨#[]⟩
theorem sR{x:Int}(h:¬(0<=x/\x<=5)):fX x=⟨#[]⟩:=by
 unfold fX
 repeat rw[if_neg Iv]
theorem yQ{x:Int}(h:0<=x/\x<=5):x=0\/x=1\/x=2\/x=3\/x=4\/x=5:=by omega
theorem pr(x:Int)(w:World):
  Calls Tryz.prog 22 #[.int .i64 x] w λe w'=>e= .returned (.string (fX x))/\Below w.heap.size w w':=by
 by_cases h:0<=x/\x<=5
 ·rcases yQ h with rfl|rfl|rfl|rfl|rfl|rfl
  all_goals
   go_enter Tryz.func22,Tryz.ntmps22
   go_wp2_with (first|(go_at_call 35;refine(jh _ _ true Ix).mono ?_;rintro e w' ⟨rfl,rfl⟩)|go_in)
   go_ret
   exact⟨rfl,(Below.refl _ _).alloc (Nat.le_refl _) _⟩
 ·have H:=Lib.hid (sR h)
  have hf:=Lib.hid (dg h)
  clear h
  go_enter Tryz.func22,Tryz.ntmps22
  go_wp2_with (first|(go_at_call 35;refine(jh _ _ false hf.out).mono ?_;rintro e w' ⟨rfl,rfl⟩)|go_in)
  go_ret
  exact⟨by rw[H.out];rfl,Below.refl _ _⟩
end Go.Proofs.YtnlhpdbijmnkhaaGreatDoor
