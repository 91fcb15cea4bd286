/-
  Own work; plain Lean (Td21, Td22, Td23).
-/
import Derived.Test.YtjejfkajcbdgjaaGreatTd20
set_option linter.all false
namespace Go.Proofs
open Go Go.Sl Go.Td Go.Jn
theorem aHy(β:Base)(w:World)(H S N W:Nat)(X:KHs)(hw:St β [cV H S X N W (-1)] w)(hN:N≤1000000)(hW:W≤54000000):Calls Tryz.prog 22 #[pp H 0] w fun r w'=>r= .returned (Ix 0)∧St β [cV H S X (N+1) (W+262144) (-1)] w':=by
 obtain⟨e,z,h1,h2⟩:=St.toE hw
 refine(aFp β w H S N e z (-1) X h2 hN (Nat.le_trans h1 hW)).mono ?_
 rintro r w' (⟨h3,z2,q,e2,_,h4,h5,h6,h7⟩|⟨h3,_⟩)
 ·subst h6
  rw[h4 rfl]at h7
  refine⟨h3,St.ofE ?_ h7⟩
  exact Nat.le_trans (Nat.add_le_add_left h5 _) (Nat.le_trans (aPz h1) (Nat.le_refl _))
 exact absurd rfl h3
theorem uR(β:Base)(w:World)(H J:Nat)(X:KHs)(dn:Bool)(hw:St β [fY H J X dn] w)(au:Int){nu:Int}{R:KRes}{so:Bool}(h:uS X au=(nu,R,so)):Calls Tryz.prog 18 #[pp H 0,Ix au] w fun r w'=>∃p c,r= .returned (.tuple #[Ix nu,.agg #[.bool R.done,Ix R.at_,Ix R.e,sB p R.holds c],.bool so])∧St β [aK aZ 3 p c R.holds,fY H J X dn] w':=by
 refine(aRp β w H J X dn hw au).mono ?_
 rintro r w' ⟨nu',R',so',h1,h2⟩
 rw[h]at h1
 injection h1 with h1 h3;injection h3 with h3 h4
 subst h1 h3 h4
 exact h2
instance tt188:FldC Tryz.prog 29 0 0 1 false:={}
instance tt189:CfC Tryz.prog 53:={}
instance tt190:FldC Tryz.prog 29 1 1 1 false:={}
instance tt191:FldC Tryz.prog 29 2 2 1 false:={}
instance tt192:CfC Tryz.prog 14:={}
instance tt193:CfC Tryz.prog 18:={}
instance tt194:CfC Tryz.prog 19:={}
open Go Go.Sl Go.Td Go.Jn
instance tt195:CfC Tryz.prog 10:={}
instance tt196:UndC Tryz.prog 22 32:={}
instance tt198:CfC Tryz.prog 11:={}
instance tt199:CfC Tryz.prog 22:={}
instance tt200:CfC Tryz.prog 30:={}
instance tt201:CfC Tryz.prog 31:={}
instance tt202:FldC Tryz.prog 32 2 2 1 false:={}
instance tt203:CfC Tryz.prog 17:={}
open Go Go.Sl Go.Td Go.Jn
instance tt206:UndC Tryz.prog 131 44:={}
end Go.Proofs
