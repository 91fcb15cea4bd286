/-
  What a gate shows, up or down. Own work; plain Lean.
-/
import Derived.Test.YtmhlglginimmnaaGreatDoorHv25
set_option linter.all false
namespace Go.Hv
open Go Go.Sl Go.Proofs Go.Jn
theorem h3r{G J S:Nat}{X:KG}{i:KI}{k:KS}{β:Base}{a:Res}{w:World}(h:St β (a::gvR G J X false::[jourR J S i false,storeR S k]) w):St β (gvR G J X false::jourR J S i false::storeR S k::[a]) w:=
 h.perm (perm_ix (L:=[a,gvR G J X false,jourR J S i false,storeR S k]) (L':=[gvR G J X false,jourR J S i false,storeR S k,a]) [1,2,3,0] 4 rfl (by kernel_rfl) (by kernel_rfl))
theorem swp{a b:Res}{β:Base}{w:World}(h:St β [a,b] w):St β [b,a] w:=h.perm (List.Perm.swap _ _ _)
end Go.Hv
namespace Go.Proofs
open Go Go.Sl Go.Hv Go.Jn
section
variable (β:Base)(w:World)(G S N:Nat)(X:KG)(m:Bool)(hw:St β [gateR G S X N m] w)
include hw
theorem hereG_ok:Calls Tryz.prog 16 #[.pointer (some ⟨G,0,none⟩)] w fun r w'=>∃p c,r= .returned (.slice p X.here.length c)∧St β [entsR p c X.here,gateR G S X N m] w':=by
 obtain⟨J,i,k,hso,hpw,hw⟩:=St.openGate hw
 obtain⟨β1,sb,kn,hw1,back⟩:=St.frame (L:=[gvR G J X false]) (M:=[jourR J S i false,storeR S k]) hw
 refine(hereV_ok β1 w G J X N hso.ok hw1).mono ?_
 rintro r w' ⟨p,c,h1,h2⟩
 exact⟨p,c,h1,swp (St.closeGate hso hpw (h3r (back _ _ h2)))⟩
theorem outG_ok:Calls Tryz.prog 20 #[.pointer (some ⟨G,0,none⟩)] w fun r w'=>∃p c,r= .returned (.slice p X.out.length c)∧St β [msgsR p c X.out,gateR G S X N m] w':=by
 obtain⟨J,i,k,hso,hpw,hw⟩:=St.openGate hw
 obtain⟨β1,sb,kn,hw1,back⟩:=St.frame (L:=[gvR G J X false]) (M:=[jourR J S i false,storeR S k]) hw
 refine(outV_ok β1 w G J X N hso.ok hw1).mono ?_
 rintro r w' ⟨p,c,h1,h2⟩
 exact⟨p,c,h1,swp (St.closeGate hso hpw (h3r (back _ _ h2)))⟩
theorem msgsG_ok:Calls Tryz.prog 14 #[.pointer (some ⟨G,0,none⟩)] w fun r w'=>∃p c,r= .returned (.slice p (msgsX X).length c)∧St β [msgsR p c (msgsX X),gateR G S X N m] w':=by
 obtain⟨J,i,k,hso,hpw,hw⟩:=St.openGate hw
 obtain⟨β1,sb,kn,hw1,back⟩:=St.frame (L:=[gvR G J X false]) (M:=[jourR J S i false,storeR S k]) hw
 refine(msgsV_ok β1 w G J X N hso.ok hw1).mono ?_
 rintro r w' ⟨p,c,h1,h2⟩
 exact⟨p,c,h1,swp (St.closeGate hso hpw (h3r (back _ _ h2)))⟩
theorem lastG_ok(k0:Int):Calls Tryz.prog 17 #[.pointer (some ⟨G,0,none⟩),Ix k0] w fun r w'=>r= .returned (Ix (lastX X k0))∧St β [gateR G S X N m] w':=by
 obtain⟨J,i,k,hso,hpw,hw⟩:=St.openGate hw
 obtain⟨β1,sb,kn,hw1,back⟩:=St.frame (L:=[gvR G J X false]) (M:=[jourR J S i false,storeR S k]) hw
 refine(lastV_ok β1 w G J X hw1 k0).mono ?_
 rintro r w' ⟨h1,h2⟩
 exact⟨h1,St.closeGate hso hpw (back _ _ h2)⟩
end
theorem bad_down{β:Base}{G J:Nat}{X:KG}{w:World}{M:List Res}(hw:St β (gvR G J X true::M) w):∃β1:Base,(∀L' w',St β1 L' w'→St β (L'++(gvR G J X true::M)) w')∧BadUp β1 (.pointer (some ⟨G,0,none⟩)) 310∧St β1 [] w:=by
 obtain⟨m,p,c,ks,mz,zs,hk,hw⟩:=St.openGv hw
 obtain⟨β1,sb,kn,hw1,back⟩:=St.frame_all hw
 refine⟨β1,fun L' w' h=> ?_,fun β₁ sb1 w hw=> ?_,hw1⟩
 ·have:=back L' w' h
  have h2:St β ((gL G J m p c X ks mz zs true++M)++L') w':=this.perm List.perm_append_comm
  have h3:St β (gvR G J X true::(M++L')) w':=St.closeGv hk (by rw[←List.append_assoc];exact h2)
  exact h3.perm (List.perm_append_comm (l₁:=gvR G J X true::M) (l₂:=L'))
 ·exact up_down β₁ w hw G J m X.zone p mz.length c X.gv X.lv (Cs.mono _ _ _ _ sb1 (kn _ (k_pt 0 (o:=0) (vs:=(gC X.zone J m p mz.length c X.gv X.lv true).toList) rfl rfl)))
end Go.Proofs
