import PyProof.Rows.All
import Wide.All
import OpenK.AllK
import PyProof.SetRoads
import PyProof.DictKinds
import PyProof.DictIter
import PyProof.TupleIter
import PyProof.WalksMore
import PyProof.CompMap
import PySem.Value
import KE.KDictSum
import KE.KDictOf
import KE.KIntText
import PyProof.ExcInit
import PyProof.ExcBaseAll.ValueError
import PyProof.InstStoreFacts
import KE.KSuperObj
import OpenK.KCell
import KE.KTryMore
import PyProof.RulesAs
import PyProof.NsDelKeeps
import PyProof.ExcArgs
import PyProof.PureInt
import PySem.Challenge.RW_ui0504_06
set_option Elab.async false
set_option linter.unusedVariables false
set_option genSizeOf false
set_option genCtorIdx false
set_option genInjectivity false
set_option maxRecDepth 100000
theorem Mine.Internal.gp {p:Prop} (h:∀ P:Prop,(p→P)→P):p:=h p fun x=>x
noncomputable abbrev Mine.Internal.WB:=@PySem.wpAny_bind
noncomputable abbrev Mine.Internal.WQ:=@PySem.wpAny_pure
noncomputable abbrev Mine.Internal.WH:=@PySem.wpAny_holding
theorem Mine.Internal.LQ {α β} {l:List α} (f:α→β):(l.map f).length=l.length:=List.length_map f
theorem Mine.Internal.lb {n m:Nat} (h:Nat.ble n m=true):n≤m:=Nat.le_of_ble_eq_true h
theorem Mine.Internal.zA {A0 A1:Prop} {P:Prop} (h:A0∧A1) (k:A0→A1→P):P:=k h.1 h.2
theorem Mine.Internal.zAA {A0 A1 A2:Prop} {P:Prop} (h:A0∧A1∧A2) (k:A0→A1→A2→P):P:=k h.1 h.2.1 h.2.2
theorem Mine.Internal.zAAA {A0 A1 A2 A3:Prop} {P:Prop} (h:A0∧A1∧A2∧A3) (k:A0→A1→A2→A3→P):P:=k h.1 h.2.1 h.2.2.1 h.2.2.2
theorem Mine.Internal.zAAAA {A0 A1 A2 A3 A4:Prop} {P:Prop} (h:A0∧A1∧A2∧A3∧A4) (k:A0→A1→A2→A3→A4→P):P:=k h.1 h.2.1 h.2.2.1 h.2.2.2.1 h.2.2.2.2
theorem Mine.Internal.zAAAAA {A0 A1 A2 A3 A4 A5:Prop} {P:Prop} (h:A0∧A1∧A2∧A3∧A4∧A5) (k:A0→A1→A2→A3→A4→A5→P):P:=k h.1 h.2.1 h.2.2.1 h.2.2.2.1 h.2.2.2.2.1 h.2.2.2.2.2
theorem Mine.Internal.zAAAAAA {A0 A1 A2 A3 A4 A5 A6:Prop} {P:Prop} (h:A0∧A1∧A2∧A3∧A4∧A5∧A6) (k:A0→A1→A2→A3→A4→A5→A6→P):P:=k h.1 h.2.1 h.2.2.1 h.2.2.2.1 h.2.2.2.2.1 h.2.2.2.2.2.1 h.2.2.2.2.2.2
theorem Mine.Internal.zAAAAAE {α0:Type} {A0 A1 A2 A3 A4:Prop} {A5:α0→Prop} {P:Prop} (h:A0∧A1∧A2∧A3∧A4∧∃ x0,A5 x0) (k:A0→A1→A2→A3→A4→∀ x0,A5 x0→P):P:=h.2.2.2.2.2.elim fun x0 g0=>k h.1 h.2.1 h.2.2.1 h.2.2.2.1 h.2.2.2.2.1 x0 g0
theorem Mine.Internal.zAAAAEA {α0:Type} {A0 A1 A2 A3:Prop} {A4 A5:α0→Prop} {P:Prop} (h:A0∧A1∧A2∧A3∧∃ x0,A4 x0∧A5 x0) (k:A0→A1→A2→A3→∀ x0,A4 x0→A5 x0→P):P:=h.2.2.2.2.elim fun x0 g0=>k h.1 h.2.1 h.2.2.1 h.2.2.2.1 x0 g0.1 g0.2
theorem Mine.Internal.zAAEEA {α0 α1:Type} {A0 A1:Prop} {A2 A3:α0→α1→Prop} {P:Prop} (h:A0∧A1∧∃ x0 x1,A2 x0 x1∧A3 x0 x1) (k:A0→A1→∀ x0 x1,A2 x0 x1→A3 x0 x1→P):P:=h.2.2.elim fun x0 g0=>g0.elim fun x1 g1=>k h.1 h.2.1 x0 x1 g1.1 g1.2
theorem Mine.Internal.zAAEEAA {α0 α1:Type} {A0 A1:Prop} {A2 A3 A4:α0→α1→Prop} {P:Prop} (h:A0∧A1∧∃ x0 x1,A2 x0 x1∧A3 x0 x1∧A4 x0 x1) (k:A0→A1→∀ x0 x1,A2 x0 x1→A3 x0 x1→A4 x0 x1→P):P:=h.2.2.elim fun x0 g0=>g0.elim fun x1 g1=>k h.1 h.2.1 x0 x1 g1.1 g1.2.1 g1.2.2
theorem Mine.Internal.zAAEEEA {α0 α1 α2:Type} {A0 A1:Prop} {A2 A3:α0→α1→α2→Prop} {P:Prop} (h:A0∧A1∧∃ x0 x1 x2,A2 x0 x1 x2∧A3 x0 x1 x2) (k:A0→A1→∀ x0 x1 x2,A2 x0 x1 x2→A3 x0 x1 x2→P):P:=h.2.2.elim fun x0 g0=>g0.elim fun x1 g1=>g1.elim fun x2 g2=>k h.1 h.2.1 x0 x1 x2 g2.1 g2.2
theorem Mine.Internal.zAE {α0:Type} {A0:Prop} {A1:α0→Prop} {P:Prop} (h:A0∧∃ x0,A1 x0) (k:A0→∀ x0,A1 x0→P):P:=h.2.elim fun x0 g0=>k h.1 x0 g0
theorem Mine.Internal.zAEA {α0:Type} {A0:Prop} {A1 A2:α0→Prop} {P:Prop} (h:A0∧∃ x0,A1 x0∧A2 x0) (k:A0→∀ x0,A1 x0→A2 x0→P):P:=h.2.elim fun x0 g0=>k h.1 x0 g0.1 g0.2
theorem Mine.Internal.zAEAA {α0:Type} {A0:Prop} {A1 A2 A3:α0→Prop} {P:Prop} (h:A0∧∃ x0,A1 x0∧A2 x0∧A3 x0) (k:A0→∀ x0,A1 x0→A2 x0→A3 x0→P):P:=h.2.elim fun x0 g0=>k h.1 x0 g0.1 g0.2.1 g0.2.2
theorem Mine.Internal.zAEAAA {α0:Type} {A0:Prop} {A1 A2 A3 A4:α0→Prop} {P:Prop} (h:A0∧∃ x0,A1 x0∧A2 x0∧A3 x0∧A4 x0) (k:A0→∀ x0,A1 x0→A2 x0→A3 x0→A4 x0→P):P:=h.2.elim fun x0 g0=>k h.1 x0 g0.1 g0.2.1 g0.2.2.1 g0.2.2.2
theorem Mine.Internal.zAEAAAE {α0 α1:Type} {A0:Prop} {A1 A2 A3:α0→Prop} {A4:α0→α1→Prop} {P:Prop} (h:A0∧∃ x0,A1 x0∧A2 x0∧A3 x0∧∃ x1,A4 x0 x1) (k:A0→∀ x0,A1 x0→A2 x0→A3 x0→∀ x1,A4 x0 x1→P):P:=h.2.elim fun x0 g0=>g0.2.2.2.elim fun x1 g1=>k h.1 x0 g0.1 g0.2.1 g0.2.2.1 x1 g1
theorem Mine.Internal.zAEEA {α0 α1:Type} {A0:Prop} {A1 A2:α0→α1→Prop} {P:Prop} (h:A0∧∃ x0 x1,A1 x0 x1∧A2 x0 x1) (k:A0→∀ x0 x1,A1 x0 x1→A2 x0 x1→P):P:=h.2.elim fun x0 g0=>g0.elim fun x1 g1=>k h.1 x0 x1 g1.1 g1.2
theorem Mine.Internal.zAEEAAA {α0 α1:Type} {A0:Prop} {A1 A2 A3 A4:α0→α1→Prop} {P:Prop} (h:A0∧∃ x0 x1,A1 x0 x1∧A2 x0 x1∧A3 x0 x1∧A4 x0 x1) (k:A0→∀ x0 x1,A1 x0 x1→A2 x0 x1→A3 x0 x1→A4 x0 x1→P):P:=h.2.elim fun x0 g0=>g0.elim fun x1 g1=>k h.1 x0 x1 g1.1 g1.2.1 g1.2.2.1 g1.2.2.2
theorem Mine.Internal.zAEEEAA {α0 α1 α2:Type} {A0:Prop} {A1 A2 A3:α0→α1→α2→Prop} {P:Prop} (h:A0∧∃ x0 x1 x2,A1 x0 x1 x2∧A2 x0 x1 x2∧A3 x0 x1 x2) (k:A0→∀ x0 x1 x2,A1 x0 x1 x2→A2 x0 x1 x2→A3 x0 x1 x2→P):P:=h.2.elim fun x0 g0=>g0.elim fun x1 g1=>g1.elim fun x2 g2=>k h.1 x0 x1 x2 g2.1 g2.2.1 g2.2.2
theorem Mine.Internal.zE {α0:Type} {A0:α0→Prop} {P:Prop} (h:∃ x0,A0 x0) (k:∀ x0,A0 x0→P):P:=h.elim fun x0 g0=>k x0 g0
theorem Mine.Internal.zEA {α0:Type} {A0 A1:α0→Prop} {P:Prop} (h:∃ x0,A0 x0∧A1 x0) (k:∀ x0,A0 x0→A1 x0→P):P:=h.elim fun x0 g0=>k x0 g0.1 g0.2
theorem Mine.Internal.zEAA {α0:Type} {A0 A1 A2:α0→Prop} {P:Prop} (h:∃ x0,A0 x0∧A1 x0∧A2 x0) (k:∀ x0,A0 x0→A1 x0→A2 x0→P):P:=h.elim fun x0 g0=>k x0 g0.1 g0.2.1 g0.2.2
theorem Mine.Internal.zEAAA {α0:Type} {A0 A1 A2 A3:α0→Prop} {P:Prop} (h:∃ x0,A0 x0∧A1 x0∧A2 x0∧A3 x0) (k:∀ x0,A0 x0→A1 x0→A2 x0→A3 x0→P):P:=h.elim fun x0 g0=>k x0 g0.1 g0.2.1 g0.2.2.1 g0.2.2.2
theorem Mine.Internal.zEAAAA {α0:Type} {A0 A1 A2 A3 A4:α0→Prop} {P:Prop} (h:∃ x0,A0 x0∧A1 x0∧A2 x0∧A3 x0∧A4 x0) (k:∀ x0,A0 x0→A1 x0→A2 x0→A3 x0→A4 x0→P):P:=h.elim fun x0 g0=>k x0 g0.1 g0.2.1 g0.2.2.1 g0.2.2.2.1 g0.2.2.2.2
theorem Mine.Internal.zEAAAAA {α0:Type} {A0 A1 A2 A3 A4 A5:α0→Prop} {P:Prop} (h:∃ x0,A0 x0∧A1 x0∧A2 x0∧A3 x0∧A4 x0∧A5 x0) (k:∀ x0,A0 x0→A1 x0→A2 x0→A3 x0→A4 x0→A5 x0→P):P:=h.elim fun x0 g0=>k x0 g0.1 g0.2.1 g0.2.2.1 g0.2.2.2.1 g0.2.2.2.2.1 g0.2.2.2.2.2
theorem Mine.Internal.zEAAAEA {α0 α1:Type} {A0 A1 A2:α0→Prop} {A3 A4:α0→α1→Prop} {P:Prop} (h:∃ x0,A0 x0∧A1 x0∧A2 x0∧∃ x1,A3 x0 x1∧A4 x0 x1) (k:∀ x0,A0 x0→A1 x0→A2 x0→∀ x1,A3 x0 x1→A4 x0 x1→P):P:=h.elim fun x0 g0=>g0.2.2.2.elim fun x1 g1=>k x0 g0.1 g0.2.1 g0.2.2.1 x1 g1.1 g1.2
theorem Mine.Internal.zEAE {α0 α1:Type} {A0:α0→Prop} {A1:α0→α1→Prop} {P:Prop} (h:∃ x0,A0 x0∧∃ x1,A1 x0 x1) (k:∀ x0,A0 x0→∀ x1,A1 x0 x1→P):P:=h.elim fun x0 g0=>g0.2.elim fun x1 g1=>k x0 g0.1 x1 g1
theorem Mine.Internal.zEAEEA {α0 α1 α2:Type} {A0:α0→Prop} {A1 A2:α0→α1→α2→Prop} {P:Prop} (h:∃ x0,A0 x0∧∃ x1 x2,A1 x0 x1 x2∧A2 x0 x1 x2) (k:∀ x0,A0 x0→∀ x1 x2,A1 x0 x1 x2→A2 x0 x1 x2→P):P:=h.elim fun x0 g0=>g0.2.elim fun x1 g1=>g1.elim fun x2 g2=>k x0 g0.1 x1 x2 g2.1 g2.2
theorem Mine.Internal.zEAEEAA {α0 α1 α2:Type} {A0:α0→Prop} {A1 A2 A3:α0→α1→α2→Prop} {P:Prop} (h:∃ x0,A0 x0∧∃ x1 x2,A1 x0 x1 x2∧A2 x0 x1 x2∧A3 x0 x1 x2) (k:∀ x0,A0 x0→∀ x1 x2,A1 x0 x1 x2→A2 x0 x1 x2→A3 x0 x1 x2→P):P:=h.elim fun x0 g0=>g0.2.elim fun x1 g1=>g1.elim fun x2 g2=>k x0 g0.1 x1 x2 g2.1 g2.2.1 g2.2.2
theorem Mine.Internal.zEAEEEA {α0 α1 α2 α3:Type} {A0:α0→Prop} {A1 A2:α0→α1→α2→α3→Prop} {P:Prop} (h:∃ x0,A0 x0∧∃ x1 x2 x3,A1 x0 x1 x2 x3∧A2 x0 x1 x2 x3) (k:∀ x0,A0 x0→∀ x1 x2 x3,A1 x0 x1 x2 x3→A2 x0 x1 x2 x3→P):P:=h.elim fun x0 g0=>g0.2.elim fun x1 g1=>g1.elim fun x2 g2=>g2.elim fun x3 g3=>k x0 g0.1 x1 x2 x3 g3.1 g3.2
theorem Mine.Internal.zEE {α0 α1:Type} {A0:α0→α1→Prop} {P:Prop} (h:∃ x0 x1,A0 x0 x1) (k:∀ x0 x1,A0 x0 x1→P):P:=h.elim fun x0 g0=>g0.elim fun x1 g1=>k x0 x1 g1
theorem Mine.Internal.zEEA {α0 α1:Type} {A0 A1:α0→α1→Prop} {P:Prop} (h:∃ x0 x1,A0 x0 x1∧A1 x0 x1) (k:∀ x0 x1,A0 x0 x1→A1 x0 x1→P):P:=h.elim fun x0 g0=>g0.elim fun x1 g1=>k x0 x1 g1.1 g1.2
theorem Mine.Internal.zEEAA {α0 α1:Type} {A0 A1 A2:α0→α1→Prop} {P:Prop} (h:∃ x0 x1,A0 x0 x1∧A1 x0 x1∧A2 x0 x1) (k:∀ x0 x1,A0 x0 x1→A1 x0 x1→A2 x0 x1→P):P:=h.elim fun x0 g0=>g0.elim fun x1 g1=>k x0 x1 g1.1 g1.2.1 g1.2.2
theorem Mine.Internal.zEEAAA {α0 α1:Type} {A0 A1 A2 A3:α0→α1→Prop} {P:Prop} (h:∃ x0 x1,A0 x0 x1∧A1 x0 x1∧A2 x0 x1∧A3 x0 x1) (k:∀ x0 x1,A0 x0 x1→A1 x0 x1→A2 x0 x1→A3 x0 x1→P):P:=h.elim fun x0 g0=>g0.elim fun x1 g1=>k x0 x1 g1.1 g1.2.1 g1.2.2.1 g1.2.2.2
theorem Mine.Internal.zEEAAAA {α0 α1:Type} {A0 A1 A2 A3 A4:α0→α1→Prop} {P:Prop} (h:∃ x0 x1,A0 x0 x1∧A1 x0 x1∧A2 x0 x1∧A3 x0 x1∧A4 x0 x1) (k:∀ x0 x1,A0 x0 x1→A1 x0 x1→A2 x0 x1→A3 x0 x1→A4 x0 x1→P):P:=h.elim fun x0 g0=>g0.elim fun x1 g1=>k x0 x1 g1.1 g1.2.1 g1.2.2.1 g1.2.2.2.1 g1.2.2.2.2
theorem Mine.Internal.zEEAAEE {α0 α1 α2 α3:Type} {A0 A1:α0→α1→Prop} {A2:α0→α1→α2→α3→Prop} {P:Prop} (h:∃ x0 x1,A0 x0 x1∧A1 x0 x1∧∃ x2 x3,A2 x0 x1 x2 x3) (k:∀ x0 x1,A0 x0 x1→A1 x0 x1→∀ x2 x3,A2 x0 x1 x2 x3→P):P:=h.elim fun x0 g0=>g0.elim fun x1 g1=>g1.2.2.elim fun x2 g2=>g2.elim fun x3 g3=>k x0 x1 g1.1 g1.2.1 x2 x3 g3
theorem Mine.Internal.zEEAEAA {α0 α1 α2:Type} {A0:α0→α1→Prop} {A1 A2 A3:α0→α1→α2→Prop} {P:Prop} (h:∃ x0 x1,A0 x0 x1∧∃ x2,A1 x0 x1 x2∧A2 x0 x1 x2∧A3 x0 x1 x2) (k:∀ x0 x1,A0 x0 x1→∀ x2,A1 x0 x1 x2→A2 x0 x1 x2→A3 x0 x1 x2→P):P:=h.elim fun x0 g0=>g0.elim fun x1 g1=>g1.2.elim fun x2 g2=>k x0 x1 g1.1 x2 g2.1 g2.2.1 g2.2.2
theorem Mine.Internal.zEEAEAE {α0 α1 α2 α3:Type} {A0:α0→α1→Prop} {A1:α0→α1→α2→Prop} {A2:α0→α1→α2→α3→Prop} {P:Prop} (h:∃ x0 x1,A0 x0 x1∧∃ x2,A1 x0 x1 x2∧∃ x3,A2 x0 x1 x2 x3) (k:∀ x0 x1,A0 x0 x1→∀ x2,A1 x0 x1 x2→∀ x3,A2 x0 x1 x2 x3→P):P:=h.elim fun x0 g0=>g0.elim fun x1 g1=>g1.2.elim fun x2 g2=>g2.2.elim fun x3 g3=>k x0 x1 g1.1 x2 g2.1 x3 g3
theorem Mine.Internal.zEEAEEA {α0 α1 α2 α3:Type} {A0:α0→α1→Prop} {A1 A2:α0→α1→α2→α3→Prop} {P:Prop} (h:∃ x0 x1,A0 x0 x1∧∃ x2 x3,A1 x0 x1 x2 x3∧A2 x0 x1 x2 x3) (k:∀ x0 x1,A0 x0 x1→∀ x2 x3,A1 x0 x1 x2 x3→A2 x0 x1 x2 x3→P):P:=h.elim fun x0 g0=>g0.elim fun x1 g1=>g1.2.elim fun x2 g2=>g2.elim fun x3 g3=>k x0 x1 g1.1 x2 x3 g3.1 g3.2
theorem Mine.Internal.zEEAEEE {α0 α1 α2 α3 α4:Type} {A0:α0→α1→Prop} {A1:α0→α1→α2→α3→α4→Prop} {P:Prop} (h:∃ x0 x1,A0 x0 x1∧∃ x2 x3 x4,A1 x0 x1 x2 x3 x4) (k:∀ x0 x1,A0 x0 x1→∀ x2 x3 x4,A1 x0 x1 x2 x3 x4→P):P:=h.elim fun x0 g0=>g0.elim fun x1 g1=>g1.2.elim fun x2 g2=>g2.elim fun x3 g3=>g3.elim fun x4 g4=>k x0 x1 g1.1 x2 x3 x4 g4
theorem Mine.Internal.zEEAEEEL {α0 α1 α2 α3 α4:Type} {w:α1→α2→α3→α4→α0} {A0:α0→α1→Prop} {A1:α0→α1→α2→α3→α4→Prop} {P:Prop} (h:∃ x0 x1,A0 x0 x1∧∃ x2 x3 x4,x0=w x1 x2 x3 x4∧A1 x0 x1 x2 x3 x4) (k:∀ x1:α1,∀ x2:α2,∀ x3:α3,∀ x4:α4,(A0 (w x1 x2 x3 x4) x1)→(A1 (w x1 x2 x3 x4) x1 x2 x3 x4)→P):P:=by
  obtain ⟨_,x1,h0,x2,x3,x4,rfl,h1⟩:=h
  exact k x1 x2 x3 x4 h0 h1
theorem Mine.Internal.zEEAEELA {α0 α1 α2 α3:Type} {w:α1→α2→α3→α0} {A0:α0→α1→Prop} {A1 A2:α0→α1→α2→α3→Prop} {P:Prop} (h:∃ x0 x1,A0 x0 x1∧∃ x2 x3,x0=w x1 x2 x3∧A1 x0 x1 x2 x3∧A2 x0 x1 x2 x3) (k:∀ x1:α1,∀ x2:α2,∀ x3:α3,(A0 (w x1 x2 x3) x1)→(A1 (w x1 x2 x3) x1 x2 x3)→(A2 (w x1 x2 x3) x1 x2 x3)→P):P:=by
  obtain ⟨_,x1,h0,x2,x3,rfl,h1,h2⟩:=h
  exact k x1 x2 x3 h0 h1 h2
theorem Mine.Internal.zEEAEL {α0 α1 α2:Type} {w:α1→α2→α0} {A0:α0→α1→Prop} {A1:α0→α1→α2→Prop} {P:Prop} (h:∃ x0 x1,A0 x0 x1∧∃ x2,x0=w x1 x2∧A1 x0 x1 x2) (k:∀ x1:α1,∀ x2:α2,(A0 (w x1 x2) x1)→(A1 (w x1 x2) x1 x2)→P):P:=by
  obtain ⟨_,x1,h0,x2,rfl,h1⟩:=h
  exact k x1 x2 h0 h1
theorem Mine.Internal.zEEAELA {α0 α1 α2:Type} {w:α1→α2→α0} {A0:α0→α1→Prop} {A1 A2:α0→α1→α2→Prop} {P:Prop} (h:∃ x0 x1,A0 x0 x1∧∃ x2,x0=w x1 x2∧A1 x0 x1 x2∧A2 x0 x1 x2) (k:∀ x1:α1,∀ x2:α2,(A0 (w x1 x2) x1)→(A1 (w x1 x2) x1 x2)→(A2 (w x1 x2) x1 x2)→P):P:=by
  obtain ⟨_,x1,h0,x2,rfl,h1,h2⟩:=h
  exact k x1 x2 h0 h1 h2
theorem Mine.Internal.zEEAELAE {α0 α1 α2 α3:Type} {w:α1→α2→α0} {A0:α0→α1→Prop} {A1:α0→α1→α2→Prop} {A2:α0→α1→α2→α3→Prop} {P:Prop} (h:∃ x0 x1,A0 x0 x1∧∃ x2,x0=w x1 x2∧A1 x0 x1 x2∧∃ x3,A2 x0 x1 x2 x3) (k:∀ x1:α1,∀ x2:α2,∀ x3:α3,(A0 (w x1 x2) x1)→(A1 (w x1 x2) x1 x2)→(A2 (w x1 x2) x1 x2 x3)→P):P:=by
  obtain ⟨_,x1,h0,x2,rfl,h1,x3,h2⟩:=h
  exact k x1 x2 x3 h0 h1 h2
theorem Mine.Internal.zEEAL {α0 α1:Type} {w:α1→α0} {A0 A1:α0→α1→Prop} {P:Prop} (h:∃ x0 x1,A0 x0 x1∧x0=w x1∧A1 x0 x1) (k:∀ x1:α1,(A0 (w x1) x1)→(A1 (w x1) x1)→P):P:=by
  obtain ⟨_,x1,h0,rfl,h1⟩:=h
  exact k x1 h0 h1
theorem Mine.Internal.zEEALA {α0 α1:Type} {w:α1→α0} {A0 A1 A2:α0→α1→Prop} {P:Prop} (h:∃ x0 x1,A0 x0 x1∧x0=w x1∧A1 x0 x1∧A2 x0 x1) (k:∀ x1:α1,(A0 (w x1) x1)→(A1 (w x1) x1)→(A2 (w x1) x1)→P):P:=by
  obtain ⟨_,x1,h0,rfl,h1,h2⟩:=h
  exact k x1 h0 h1 h2
theorem Mine.Internal.zEEALAA {α0 α1:Type} {w:α1→α0} {A0 A1 A2 A3:α0→α1→Prop} {P:Prop} (h:∃ x0 x1,A0 x0 x1∧x0=w x1∧A1 x0 x1∧A2 x0 x1∧A3 x0 x1) (k:∀ x1:α1,(A0 (w x1) x1)→(A1 (w x1) x1)→(A2 (w x1) x1)→(A3 (w x1) x1)→P):P:=by
  obtain ⟨_,x1,h0,rfl,h1,h2,h3⟩:=h
  exact k x1 h0 h1 h2 h3
theorem Mine.Internal.zEEALAEA {α0 α1 α2:Type} {w:α1→α0} {A0 A1:α0→α1→Prop} {A2 A3:α0→α1→α2→Prop} {P:Prop} (h:∃ x0 x1,A0 x0 x1∧x0=w x1∧A1 x0 x1∧∃ x2,A2 x0 x1 x2∧A3 x0 x1 x2) (k:∀ x1:α1,∀ x2:α2,(A0 (w x1) x1)→(A1 (w x1) x1)→(A2 (w x1) x1 x2)→(A3 (w x1) x1 x2)→P):P:=by
  obtain ⟨_,x1,h0,rfl,h1,x2,h2,h3⟩:=h
  exact k x1 x2 h0 h1 h2 h3
theorem Mine.Internal.zEEALEA {α0 α1 α2:Type} {w:α1→α0} {A0:α0→α1→Prop} {A1 A2:α0→α1→α2→Prop} {P:Prop} (h:∃ x0 x1,A0 x0 x1∧x0=w x1∧∃ x2,A1 x0 x1 x2∧A2 x0 x1 x2) (k:∀ x1:α1,∀ x2:α2,(A0 (w x1) x1)→(A1 (w x1) x1 x2)→(A2 (w x1) x1 x2)→P):P:=by
  obtain ⟨_,x1,h0,rfl,x2,h1,h2⟩:=h
  exact k x1 x2 h0 h1 h2
theorem Mine.Internal.zEEALEAA {α0 α1 α2:Type} {w:α1→α0} {A0:α0→α1→Prop} {A1 A2 A3:α0→α1→α2→Prop} {P:Prop} (h:∃ x0 x1,A0 x0 x1∧x0=w x1∧∃ x2,A1 x0 x1 x2∧A2 x0 x1 x2∧A3 x0 x1 x2) (k:∀ x1:α1,∀ x2:α2,(A0 (w x1) x1)→(A1 (w x1) x1 x2)→(A2 (w x1) x1 x2)→(A3 (w x1) x1 x2)→P):P:=by
  obtain ⟨_,x1,h0,rfl,x2,h1,h2,h3⟩:=h
  exact k x1 x2 h0 h1 h2 h3
theorem Mine.Internal.zEEALEEA {α0 α1 α2 α3:Type} {w:α1→α0} {A0:α0→α1→Prop} {A1 A2:α0→α1→α2→α3→Prop} {P:Prop} (h:∃ x0 x1,A0 x0 x1∧x0=w x1∧∃ x2 x3,A1 x0 x1 x2 x3∧A2 x0 x1 x2 x3) (k:∀ x1:α1,∀ x2:α2,∀ x3:α3,(A0 (w x1) x1)→(A1 (w x1) x1 x2 x3)→(A2 (w x1) x1 x2 x3)→P):P:=by
  obtain ⟨_,x1,h0,rfl,x2,x3,h1,h2⟩:=h
  exact k x1 x2 x3 h0 h1 h2
theorem Mine.Internal.zEEALEEE {α0 α1 α2 α3 α4:Type} {w:α1→α0} {A0:α0→α1→Prop} {A1:α0→α1→α2→α3→α4→Prop} {P:Prop} (h:∃ x0 x1,A0 x0 x1∧x0=w x1∧∃ x2 x3 x4,A1 x0 x1 x2 x3 x4) (k:∀ x1:α1,∀ x2:α2,∀ x3:α3,∀ x4:α4,(A0 (w x1) x1)→(A1 (w x1) x1 x2 x3 x4)→P):P:=by
  obtain ⟨_,x1,h0,rfl,x2,x3,x4,h1⟩:=h
  exact k x1 x2 x3 x4 h0 h1
theorem Mine.Internal.zEEE {α0 α1 α2:Type} {A0:α0→α1→α2→Prop} {P:Prop} (h:∃ x0 x1 x2,A0 x0 x1 x2) (k:∀ x0 x1 x2,A0 x0 x1 x2→P):P:=h.elim fun x0 g0=>g0.elim fun x1 g1=>g1.elim fun x2 g2=>k x0 x1 x2 g2
theorem Mine.Internal.zEEEA {α0 α1 α2:Type} {A0 A1:α0→α1→α2→Prop} {P:Prop} (h:∃ x0 x1 x2,A0 x0 x1 x2∧A1 x0 x1 x2) (k:∀ x0 x1 x2,A0 x0 x1 x2→A1 x0 x1 x2→P):P:=h.elim fun x0 g0=>g0.elim fun x1 g1=>g1.elim fun x2 g2=>k x0 x1 x2 g2.1 g2.2
theorem Mine.Internal.zEEEAA {α0 α1 α2:Type} {A0 A1 A2:α0→α1→α2→Prop} {P:Prop} (h:∃ x0 x1 x2,A0 x0 x1 x2∧A1 x0 x1 x2∧A2 x0 x1 x2) (k:∀ x0 x1 x2,A0 x0 x1 x2→A1 x0 x1 x2→A2 x0 x1 x2→P):P:=h.elim fun x0 g0=>g0.elim fun x1 g1=>g1.elim fun x2 g2=>k x0 x1 x2 g2.1 g2.2.1 g2.2.2
theorem Mine.Internal.zEEEAAA {α0 α1 α2:Type} {A0 A1 A2 A3:α0→α1→α2→Prop} {P:Prop} (h:∃ x0 x1 x2,A0 x0 x1 x2∧A1 x0 x1 x2∧A2 x0 x1 x2∧A3 x0 x1 x2) (k:∀ x0 x1 x2,A0 x0 x1 x2→A1 x0 x1 x2→A2 x0 x1 x2→A3 x0 x1 x2→P):P:=h.elim fun x0 g0=>g0.elim fun x1 g1=>g1.elim fun x2 g2=>k x0 x1 x2 g2.1 g2.2.1 g2.2.2.1 g2.2.2.2
theorem Mine.Internal.zEEEAAE {α0 α1 α2 α3:Type} {A0 A1:α0→α1→α2→Prop} {A2:α0→α1→α2→α3→Prop} {P:Prop} (h:∃ x0 x1 x2,A0 x0 x1 x2∧A1 x0 x1 x2∧∃ x3,A2 x0 x1 x2 x3) (k:∀ x0 x1 x2,A0 x0 x1 x2→A1 x0 x1 x2→∀ x3,A2 x0 x1 x2 x3→P):P:=h.elim fun x0 g0=>g0.elim fun x1 g1=>g1.elim fun x2 g2=>g2.2.2.elim fun x3 g3=>k x0 x1 x2 g2.1 g2.2.1 x3 g3
theorem Mine.Internal.zEEEEAA {α0 α1 α2 α3:Type} {A0 A1 A2:α0→α1→α2→α3→Prop} {P:Prop} (h:∃ x0 x1 x2 x3,A0 x0 x1 x2 x3∧A1 x0 x1 x2 x3∧A2 x0 x1 x2 x3) (k:∀ x0 x1 x2 x3,A0 x0 x1 x2 x3→A1 x0 x1 x2 x3→A2 x0 x1 x2 x3→P):P:=h.elim fun x0 g0=>g0.elim fun x1 g1=>g1.elim fun x2 g2=>g2.elim fun x3 g3=>k x0 x1 x2 x3 g3.1 g3.2.1 g3.2.2
theorem Mine.Internal.zEEEEE {α0 α1 α2 α3 α4:Type} {A0:α0→α1→α2→α3→α4→Prop} {P:Prop} (h:∃ x0 x1 x2 x3 x4,A0 x0 x1 x2 x3 x4) (k:∀ x0 x1 x2 x3 x4,A0 x0 x1 x2 x3 x4→P):P:=h.elim fun x0 g0=>g0.elim fun x1 g1=>g1.elim fun x2 g2=>g2.elim fun x3 g3=>g3.elim fun x4 g4=>k x0 x1 x2 x3 x4 g4
theorem Mine.Internal.zEEEEEA {α0 α1 α2 α3 α4:Type} {A0 A1:α0→α1→α2→α3→α4→Prop} {P:Prop} (h:∃ x0 x1 x2 x3 x4,A0 x0 x1 x2 x3 x4∧A1 x0 x1 x2 x3 x4) (k:∀ x0 x1 x2 x3 x4,A0 x0 x1 x2 x3 x4→A1 x0 x1 x2 x3 x4→P):P:=h.elim fun x0 g0=>g0.elim fun x1 g1=>g1.elim fun x2 g2=>g2.elim fun x3 g3=>g3.elim fun x4 g4=>k x0 x1 x2 x3 x4 g4.1 g4.2
theorem Mine.Internal.zEEEEEE {α0 α1 α2 α3 α4 α5:Type} {A0:α0→α1→α2→α3→α4→α5→Prop} {P:Prop} (h:∃ x0 x1 x2 x3 x4 x5,A0 x0 x1 x2 x3 x4 x5) (k:∀ x0 x1 x2 x3 x4 x5,A0 x0 x1 x2 x3 x4 x5→P):P:=h.elim fun x0 g0=>g0.elim fun x1 g1=>g1.elim fun x2 g2=>g2.elim fun x3 g3=>g3.elim fun x4 g4=>g4.elim fun x5 g5=>k x0 x1 x2 x3 x4 x5 g5
section
open PySem
namespace Mine.Internal
noncomputable abbrev bT (w:World):Bool:=w.params.followText "set-order"
noncomputable def n6 (bt:Bool) (g:List Nat):SetTable:={ mask:=7,place:=g.toArray,dummies:=#[],finger:=0,led:=!bt,moves:=0,plain:=true }
noncomputable def SEl:List Nat→List (Int × Value)→Prop
 | [],l=>l=[]
 | k :: g,l=>∃ t r,l=((k:Int),.int (k:Int) t) :: r∧SEl g r
noncomputable def rR (bt:Bool) (g:List Nat) (es:List (Int × Value)) (ep:Nat):Obj:={ cls:=.type "set",dict:=none,data:=.set es.toArray ep (n6 bt g) }
noncomputable abbrev jg (w:World) (h:Heap) (a:Addr) (g:List Nat) (es:List (Int × Value)) (ep:Nat):Prop:=h.get? a=some (rR (bT w) g es ep)∧SEl g es
noncomputable def okG (g:List Nat):Bool:=[[],[2],[3],[4],[2,3],[2,4],[3,4],[2,3,4]].contains g
noncomputable def okAdd (g:List Nat) (k:Nat):Bool:=[([],2),([],3),([],4),([2],3),([2],4),([3],4),([2,3],4)].contains (g,k)
noncomputable def cz (g:List Nat):Nat→Nat
 | 0=>0
 | i+1=>match g[i]? with | some j=>j+1 | none=>0
noncomputable def e7 (w:World) (a:Addr) (ep:Nat) (es:List (Int × Value)):List (Int × Value):=cond (bT w) (pickOrder (w.params.setOrder a ep) es.toArray).toList es
theorem SEl.len {g:List Nat} {es:List (Int × Value)} (h:SEl g es):es.length=g.length:=by
 induction g generalizing es with
 | nil=>cases h; rfl
 | cons k g ih=>obtain ⟨t,r,rfl,h⟩:=h; exact congrArg (·+1) (ih h)
section
variable {prog:Program} {w:World} {A:Around} {s:Shared} {E:Value→Shared→Prop} {a I:Addr} {g:List Nat} {es:List (Int × Value)} {ep i k t:Nat}
theorem ur {Q:Value→Shared→Prop} (h:Q (.ref s.heap.objs.size) { s with heap:=s.heap.push (rR (bT w) [] [] 0) }):wpAny (model prog w) A (newSet (.type "set")) Q E s:=by
 unfold newSet setsByText
 refine WB (WB (wpAny_askSetting (WQ ?_)))
 dsimp only
 simp only [newObj]
 exact WB (wpAny_alloc (WQ h))
theorem qi {bt:Bool} (ok:okG g=true):(n6 bt g).fits g.length=true:=by
 unfold okG at ok
 simp only [List.contains_eq_mem,List.mem_cons,List.not_mem_nil,or_false,decide_eq_true_eq] at ok
 rcases ok with rfl | rfl | rfl | rfl | rfl | rfl | rfl | rfl <;> cases bt <;> decide
theorem jg.ty (h:jg w s.heap a g es ep):s.TypeIs (.ref a) "set" := ⟨_,h.1,rfl⟩
theorem jg.fit (h:jg w s.heap a g es ep) (ok:okG g=true):(n6 (bT w) g).fits es.toArray.size=true:=by
 rw [List.size_toArray,h.2.len]; exact qi ok
theorem rq (h:okAdd g k=true):okG g=true∧okG (g ++ [k])=true:=by
 unfold okAdd at h
 simp only [List.contains_eq_mem,List.mem_cons,List.not_mem_nil,or_false,decide_eq_true_eq] at h
 rcases h with h | h | h | h | h | h | h <;> cases h <;> exact ⟨rfl,rfl⟩
theorem SEl.find (h:SEl g es) (hk:k∉g):es.findIdx? (fun e=>(intKind prog w).is (k:Int) e.2)=none:=by
 induction g generalizing es with
 | nil=>cases h; rfl
 | cons j g ih=>
  refine gp fun gP gH=>?_
  obtain ⟨t,r,rfl,h⟩:=h
  apply gH;clear gH
  have n:k≠j:=fun e=>hk (e▸.head _)
  rw [List.findIdx?_cons,ih h fun m=>hk (.tail _ m)]
  have:(intKind prog w).is (k:Int) (Value.int (j:Int) t)=false:=by
   show decide _=false
   exact decide_eq_false fun e=>n (Int.ofNat_inj.mp e).symm
  rw [this]; rfl
theorem wI (h:okAdd g k=true):k∉g:=by
 unfold okAdd at h
 simp only [List.contains_eq_mem,List.mem_cons,List.not_mem_nil,or_false,decide_eq_true_eq] at h
 rcases h with h | h | h | h | h | h | h <;> cases h <;> decide
theorem mW (h:okG g=true):∀ j∈g,j<5:=by
 unfold okG at h
 simp only [List.contains_eq_mem,List.mem_cons,List.not_mem_nil,or_false,decide_eq_true_eq] at h
 rcases h with h | h | h | h | h | h | h | h <;> subst h <;> decide
theorem jm:∀ j:Fin 5,hashInt (j.val:Int)=(j.val:Int):=by decide +kernel
theorem SEl.elems (h:SEl g es) (sm:∀ j∈g,j<5):ElemsOf (intKind prog w) es:=by
 induction g generalizing es with
 | nil=>cases h; intro e he; cases he
 | cons j g ih=>
  refine gp fun gP gH=>?_
  obtain ⟨t,r,rfl,h⟩:=h
  apply gH;clear gH
  intro e he
  cases he with
  | head=>exact ⟨⟨(j:Int),by show decide _=true; exact decide_eq_true rfl,(jm ⟨j,sm j (.head _)⟩).symm⟩,rfl⟩
  | tail _ he=>exact ih h (fun x m=>sm x (.tail _ m)) e he
theorem SEl.snoc (h:SEl g es):SEl (g ++ [k]) (es ++ [((k:Int),.int (k:Int) t)]):=by
 induction g generalizing es with
 | nil=>cases h; exact ⟨t,[],rfl,rfl⟩
 | cons j g ih=>obtain ⟨t',r,rfl,h⟩:=h; exact ⟨t',_,rfl,ih h⟩
theorem tw {bt:Bool} (h:SEl g es) (hk:okAdd g k=true):layNew (n6 bt g) es.toArray (k:Int) (.int (k:Int) t)=((es ++ [((k:Int),Value.int (k:Int) t)]).toArray,n6 bt (g ++ [k]),false,false):=by
 unfold okAdd at hk
 simp only [List.contains_eq_mem,List.mem_cons,List.not_mem_nil,or_false,decide_eq_true_eq] at hk
 rcases hk with hk | hk | hk | hk | hk | hk | hk <;> cases hk
 ·cases h; cases bt <;> rfl
 ·cases h; cases bt <;> rfl
 ·cases h; cases bt <;> rfl
 ·obtain ⟨_,_,rfl,h⟩:=h; cases h; cases bt <;> rfl
 ·obtain ⟨_,_,rfl,h⟩:=h; cases h; cases bt <;> rfl
 ·obtain ⟨_,_,rfl,h⟩:=h; cases h; cases bt <;> rfl
 ·obtain ⟨_,_,rfl,_,_,rfl,h⟩:=h; cases h; cases bt <;> rfl
theorem rB {bt:Bool} (h:okG g=true):(n6 bt g).tooFull=false:=by
 unfold okG at h
 simp only [List.contains_eq_mem,List.mem_cons,List.not_mem_nil,or_false,decide_eq_true_eq] at h
 rcases h with h | h | h | h | h | h | h | h <;> subst h <;> cases bt <;> rfl
theorem uW {Q:Value→Shared→Prop} (h:jg w s.heap a g es ep) (hk:okAdd g k=true) (q:∀ h',Heap.SameBut a s.heap h'→jg w h' a (g ++ [k]) (es ++ [((k:Int),.int (k:Int) t)]) (ep+1)→Q .none { s with heap:=h',toks:=s.toks+1 }):wpAny (model prog w) A (call (.builtin "set.add") [.ref a,.int (k:Int) t]) Q E s:=by
 refine zA (rq hk) fun hg hg2=>?_
 have k5:k<5:=mW hg2 k (List.mem_append_right _ (.head _))
 have hkey:(intKind prog w).is (k:Int) (.int (k:Int) t)=true:=by show decide _=true; exact decide_eq_true rfl
 have hsh:(intKind prog w).hash (k:Int)=(k:Int):=jm ⟨k,k5⟩
 have el:=SEl.elems (prog:=prog) (w:=w) h.2 (mW hg)
 have sz:es.toArray.size<scanBound:=by
  rw [List.size_toArray,h.2.len]
  unfold okG at hg
  simp only [List.contains_eq_mem,List.mem_cons,List.not_mem_nil,or_false,decide_eq_true_eq] at hg
  rcases hg with h | h | h | h | h | h | h | h <;> subst h <;> decide
 have hfit:=h.fit hg
 refine wpAny_call_entry F.slot_set_add h.ty F.entry_set_add ?_ (F.args_set_add_2 _ _)
 unfold Builtin.«set.add» Builtin.Frozenset.oneOther
 simp only [List.isEmpty_nil,bind_assoc]
 unfold Builtin.Frozenset.addrOf setAdd
 refine WB (WQ ?_)
 try dsimp only
 refine WB (WQ ?_)
 try dsimp only
 refine WB ?_
 refine WH ?_
 refine WB ((intKind prog w).pyHash hkey ?_)
 unfold setAddHashed setAddHashedIn
 refine WH (WB (wpAny_setState_of (s:={ s with toks:=s.toks+1 }) h.1 rfl hfit ?_))
 dsimp only
 rw [byScan_of (knd:=intKind prog w) rfl sz el]
 simp only [↓reduceIte]
 unfold setAddByScan
 refine WB ?_
 refine WB (wpAny_rule ?_)
 refine WB (wpAny_setScan_of (s:={ s with toks:=s.toks+1 }) hkey h.1 rfl hfit el ?_)
 rw [h.2.find (wI hk)]
 dsimp only
 rw [hsh,tw h.2 hk]
 dsimp only
 refine WB (wpAny_of_eq (a:=()) rfl ?_)
 show wpAny _ _ (hashByValue 8 (.int (k:Int) t) >>= _) _ _ _
 refine WB (wpAny_of_eq (a:=true) rfl ?_)
 simp only [↓reduceIte]
 have sz2:(es ++ [((k:Int),Value.int (k:Int) t)]).toArray.size<100:=by
  rw [List.size_toArray,(h.2.snoc (k:=k) (t:=t)).len]
  unfold okG at hg2
  simp only [List.contains_eq_mem,List.mem_cons,List.not_mem_nil,or_false,decide_eq_true_eq] at hg2
  rcases hg2 with h | h | h | h | h | h | h | h <;> rw [h] <;> decide
 refine WB (wpAny_storeSet_of (s:={ s with toks:=s.toks+1 }) h.1 rfl ?_ (Nat.le_trans (Nat.le_of_lt sz2) (by rw [sizeLine_eq]; decide)))
 rw [rB hg2,if_neg (by decide)]
 refine WQ (WQ ?_)
 show wpAny _ _ (ret Value.none) _ _ _
 refine WQ ⟨_,rfl,q _ (Heap.SameBut.update ..) ⟨?_,h.2.snoc⟩⟩
 have:=Heap.get?_update_self (Obj.putSet (es ++ [((k:Int),Value.int (k:Int) t)]).toArray (n6 (bT w) (g ++ [k]))) h.1 (by rw [putSet_of _ _ rfl]; rfl)
 rw [putSet_of _ _ rfl] at this
 exact this
end
noncomputable def j9 (a:Addr) (sl:List Nat) (len ep i:Nat):Obj:={ cls:=.type "set_iterator",data:=.fields #[.int ((cz sl i:Nat):Int) 0,.int (i:Int) 0,.ref a,.int (len:Int) 0,.int (ep:Int) 0] }
theorem i7:entryFor table "set.__iter__" = some Builtin.«frozenset.__iter__»:=
 entryFor_alias (id':="frozenset.__iter__") (by kernel_rfl) rfl (by decide +kernel) (by kernel_rfl)
theorem eD:entryFor table "set_iterator.__next__" = some Builtin.«set_iterator.__next__»:=entryFor_of_tree (by kernel_rfl)
theorem iM:entryFor table "set_iterator.__iter__" = some Builtin.«dict_keyiterator.__iter__»:=
 entryFor_alias (id':="dict_keyiterator.__iter__") (by kernel_rfl) rfl (by decide +kernel) (by kernel_rfl)
theorem bJ:Slot "set_iterator" "__next__" "set_iterator.__next__" :=
 .of (owner:="set_iterator") (n:="__next__") (by rw [typeLookup_type,builtinLookup_eq_fast]; kernel_rfl) (by decide +kernel) (by decide +kernel) (by decide +kernel)
  (by first | exact .inl (by decide +kernel) | exact .inr (by decide +kernel)) (by rw [isSubtype_type]; kernel_rfl)
theorem fh:Slot "set_iterator" "__iter__" "set_iterator.__iter__" :=
 .of (owner:="set_iterator") (n:="__iter__") (by rw [typeLookup_type,builtinLookup_eq_fast]; kernel_rfl) (by decide +kernel) (by decide +kernel) (by decide +kernel)
  (by first | exact .inl (by decide +kernel) | exact .inr (by decide +kernel)) (by rw [isSubtype_type]; kernel_rfl)
theorem jO:Manifest.owners.lookup (String.ofList ['r','o','t','a','r','e','t','i','_','t','e','s'].reverse)=some Manifest.sig_set_iterator:=by kernel_rfl
theorem fD (a:Value):argsOk "set_iterator.__next__" ⟨[a],[]⟩:=by
 unfold argsOk; rw [signature?_of (id:="set_iterator.__next__") (n:=['_','_','t','x','e','n','_','_']) (o:=['r','o','t','a','r','e','t','i','_','t','e','s']) (by kernel_rfl) jO]; kernel_rfl
theorem jB (a:Value):argsOk "set_iterator.__iter__" ⟨[a],[]⟩:=by
 unfold argsOk; rw [signature?_of (id:="set_iterator.__iter__") (n:=['_','_','r','e','t','i','_','_']) (o:=['r','o','t','a','r','e','t','i','_','t','e','s']) (by kernel_rfl) jO]; kernel_rfl
theorem rT {g:List Nat} {i:Nat} (h:okG g=true) (hi:i≤g.length):SetTable.below g.toArray (cz g i)=i:=by
 unfold okG at h
 simp only [List.contains_eq_mem,List.mem_cons,List.not_mem_nil,or_false,decide_eq_true_eq] at h
 rcases h with h | h | h | h | h | h | h | h <;> subst h
 ·match i,hi with | 0,_=>rfl
 ·match i,hi with | 0,_=>rfl | 1,_=>rfl
 ·match i,hi with | 0,_=>rfl | 1,_=>rfl
 ·match i,hi with | 0,_=>rfl | 1,_=>rfl
 ·match i,hi with | 0,_=>rfl | 1,_=>rfl | 2,_=>rfl
 ·match i,hi with | 0,_=>rfl | 1,_=>rfl | 2,_=>rfl
 ·match i,hi with | 0,_=>rfl | 1,_=>rfl | 2,_=>rfl
 ·match i,hi with | 0,_=>rfl | 1,_=>rfl | 2,_=>rfl | 3,_=>rfl
section
variable {prog:Program} {w:World} {A:Around} {s:Shared} {E:Value→Shared→Prop} {a I:Addr} {g:List Nat} {es:List (Int × Value)} {ep i k t:Nat}
theorem lQ {Q:Option (Value × Nat)→Shared→Prop} (h:jg w s.heap a g es ep) (ok:okG g=true) (hi:i≤g.length) (q:Q (((e7 w a ep es)[i]?).map fun e=>(e.2,cz (cond (bT w) [] g) (i+1))) s):wpAny (model prog w) A (setNext a (cz (cond (bT w) [] g) i) i ep) Q E s:=by
 have fit:=h.fit ok
 unfold setNext
 refine WB (wpAny_setState_of h.1 rfl fit ?_)
 unfold setsByText
 refine WB (WB (wpAny_askSetting (WQ ?_)))
 refine wpAny_ite_split (fun hb=>?_) (fun hb=>?_)
 ·have hb:bT w=true:=hb
  rw [hb] at q ⊢
  dsimp only
  rw [if_neg (by simp)]
  refine WB ?_
  unfold setWalk
  refine WB (wpAny_setState_of h.1 rfl fit ?_)
  unfold setsByText
  refine WB (WB (wpAny_askSetting (WQ ?_)))
  refine wpAny_ite_split (fun _=>?_) (fun hn=>absurd hb hn)
  refine WB (wpAny_askSetting ?_)
  refine WQ (WQ ?_)
  unfold e7 at q
  rw [hb] at q
  have e1:∀ n,cz [] n=0:=fun n=>by cases n <;> rfl
  show Q (Option.map (fun e:Int × Value=>(e.2,cz [] i)) _) s
  rw [e1]
  have q:Q (Option.map (fun e:Int × Value=>(e.2,cz [] (i+1))) (pickOrder (w.params.setOrder a ep) es.toArray).toList[i]?) s:=q
  rw [e1,Array.getElem?_toList] at q
  exact q
 ·have hb:bT w=false:=Bool.eq_false_iff.mpr hb
  rw [hb] at q ⊢
  dsimp only
  refine wpAny_ite_split (fun hd=>(Bool.false_ne_true hd).elim) (fun _=>?_)
  refine WB (wpAny_of_eq (a:=()) rfl ?_)
  refine WQ ?_
  unfold e7 at q
  rw [hb] at q
  have q:Q (Option.map (fun e:Int × Value=>(e.2,cz g (i+1))) es[i]?) s:=q
  show Q (match es.toArray[SetTable.below g.toArray (cz g i)]?,g.toArray[SetTable.below g.toArray (cz g i)]? with | some (fst,x),some j=>some (x,j+1) | x,x_1=>none) s
  rw [rT ok hi]
  have e1:es.toArray[i]?=es[i]?:=by simp
  have e2:g.toArray[i]?=g[i]?:=by simp
  rw [e1,e2]
  have e3:cz g (i+1)=(match g[i]? with | some j=>j+1 | none=>0):=rfl
  rw [e3] at q
  rcases Nat.lt_or_ge i g.length with hl | hl
  ·have hl2:i<es.length:=by rw [h.2.len]; exact hl
   rw [List.getElem?_eq_getElem hl,List.getElem?_eq_getElem hl2] at q ⊢
   exact q
  ·have hl2:es.length≤i:=by rw [h.2.len]; exact hl
   rw [List.getElem?_eq_none hl2] at q ⊢
   exact q
theorem rJ {Q:Value→Shared→Prop} (h:jg w s.heap a g es ep) (ok:okG g=true) (q:Q (.ref s.heap.objs.size) { s with heap:=s.heap.push (j9 a (cond (bT w) [] g) g.length ep 0) }):wpAny (model prog w) A (pyIter (.ref a)) Q E s:=by
 have fit:=h.fit ok
 refine wpAny_pyIter_slot h.ty F.slot_set_iter (wpAny_call_entry F.slot_set_iter h.ty i7 ?_ (F.args_set_iter_1 _))
 unfold Builtin.«frozenset.__iter__» Builtin.Frozenset.slot0 slotArgs
 simp only [List.isEmpty_nil,Bool.not_true,Bool.false_eq_true,↓reduceIte,bind_assoc,List.length_nil,bne_self_eq_false]
 unfold Builtin.Frozenset.addrOf Builtin.Frozenset.sizeOf
 refine WB (WQ ?_)
 try dsimp only
 refine WB (WQ ?_)
 refine WB (WB (wpAny_setEntries_of h.1 rfl fit (WQ ?_)))
 refine WB ?_
 unfold setDrawn
 refine WB (wpAny_setState_of h.1 rfl fit ?_)
 unfold setsByText
 refine WB (WB (wpAny_askSetting (WQ ?_)))
 refine WQ ?_
 refine wpAny_ite_split (fun hd=>(Bool.false_ne_true ((Bool.and_eq_true _ _).mp hd).2).elim) (fun _=>?_)
 refine WB (WQ ?_)
 refine WB (wpAny_setEpoch_of h.1 rfl fit ?_)
 refine WB (wpAny_newObj_type (WQ ⟨_,rfl,"set_iterator",_,⟨_,Heap.get?_push_size _ rfl,rfl⟩,bJ.lookup,?_⟩))
 have e:es.toArray.size=g.length:=by rw [List.size_toArray,h.2.len]
 rw [e]
 exact q
theorem rC {Q:Value→Shared→Prop} {sl:List Nat} {len:Nat} (h:s.heap.get? I=some (j9 a sl len ep i)) (q:Q (.ref I) s):wpAny (model prog w) A (pyIter (.ref I)) Q E s:=by
 have ty:s.TypeIs (.ref I) "set_iterator" := ⟨_,h,rfl⟩
 refine wpAny_pyIter_slot ty fh (wpAny_call_entry fh ty iM ?_ (jB _))
 show wpAny _ _ (ret (.ref I)) _ _ s
 exact WQ ⟨_,rfl,"set_iterator",_,ty,bJ.lookup,q⟩
theorem sD {Q:Option Value→Shared→Prop} {e:Int × Value} (h:s.heap.get? I=some (j9 a (cond (bT w) [] g) g.length ep i)) (hs:jg w s.heap a g es ep) (ok:okG g=true) (hi:(e7 w a ep es)[i]?=some e) (hl:i≤g.length)
  (q:∀ h',h'.get? I=some (j9 a (cond (bT w) [] g) g.length ep (i+1))→Heap.SameBut I s.heap h'→Q (some e.2) { s with heap:=h' }):wpAny (model prog w) A (pyNext (.ref I)) Q E s:=by
 have ty:s.TypeIs (.ref I) "set_iterator" := ⟨_,h,rfl⟩
 have fit:=hs.fit ok
 unfold pyNext
 refine WB (wpAny_attempt (wpAny_callSpecial?_slot (name:=Str.ofString "__next__") ty bJ (wpAny_call_entry bJ ty eD ?_ (fD _))))
 unfold Builtin.«set_iterator.__next__»
 refine WB (WQ ?_)
 refine WB (wpAny_fieldsOf h rfl ?_)
 dsimp only
 refine WB (wpAny_setEntries_of hs.1 rfl fit ?_)
 have e1:es.toArray.size=g.length:=by rw [List.size_toArray,hs.2.len]
 rw [if_neg (by rw [e1]; simp)]
 show wpAny _ _ (setNext a (cz (cond (bT w) [] g) i) i ep >>= _) _ _ _
 refine WB (lQ hs ok hl ?_)
 rw [hi]
 show wpAny _ _ (setField (.ref I) 0 (rawInt ((cz (cond (bT w) [] g) (i+1):Nat):Int)) >>= _) _ _ _
 refine WB (wpAny_setField_rec h (by show 0<5; decide) fun h1 g1 s1=>?_)
 refine WB (wpAny_setField_rec g1 (by show 1<5; decide) fun h2 g2 s2=>?_)
 exact WQ ⟨_,rfl,WQ (q h2 g2 (s1.trans s2))⟩
theorem tX {Q:Option Value→Shared→Prop} (hh:A.handled=none) (h:s.heap.get? I=some (j9 a (cond (bT w) [] g) g.length ep i)) (hs:jg w s.heap a g es ep) (ok:okG g=true) (hi:(e7 w a ep es)[i]?=none) (hl:i≤g.length)
  (q:∀ h',Heap.ExtBut I s.heap h'→Q none { s with heap:=h' }):wpAny (model prog w) A (pyNext (.ref I)) Q E s:=by
 have ty:s.TypeIs (.ref I) "set_iterator" := ⟨_,h,rfl⟩
 have fit:=hs.fit ok
 unfold pyNext
 refine WB (wpAny_attempt (wpAny_callSpecial?_slot (name:=Str.ofString "__next__") ty bJ (wpAny_call_entry bJ ty eD ?_ (fD _))))
 unfold Builtin.«set_iterator.__next__»
 refine WB (WQ ?_)
 refine WB (wpAny_fieldsOf h rfl ?_)
 dsimp only
 refine WB (wpAny_setEntries_of hs.1 rfl fit ?_)
 have e1:es.toArray.size=g.length:=by rw [List.size_toArray,hs.2.len]
 rw [if_neg (by rw [e1]; simp)]
 show wpAny _ _ (setNext a (cz (cond (bT w) [] g) i) i ep >>= _) _ _ _
 refine WB (lQ hs ok hl ?_)
 rw [hi]
 show wpAny _ _ (setField (.ref I) 2 .none >>= _) _ _ _
 refine WB (wpAny_setField_rec h (by show 2<5; decide) fun h1 g1 s1=>?_)
 show wpAny _ _ (newExc (.type "StopIteration") [] >>= _) _ _ _
 refine WB ?_
 simp only [newExc,newTuple]
 refine WB (wpAny_newObj_type ?_ (by size_fits))
 refine WB (m:=firstArgMember _ _) (wpAny_of_eq (a:=Value.none) (by first | rfl | (simp only [firstArgMember]; rfl)) ?_)
 refine wpAny_newObj_type ?_ (by size_fits)
 simp only [raiseNew]
 refine WB (wpAny_handled ?_)
 first | rw [show A.in1.handled=none from hh] | rw [hh]
 refine WB (WQ (wpAny_throw ?_))
 refine WB (wpAny_isInstance (T:="StopIteration") (b:=true) ⟨_,Heap.get?_push_size _ rfl,rfl⟩ isSubtype_stop ?_)
 exact WQ (q _ ((s1.extBut.push _).push _))
end
theorem kC (elt target iter:Expr) (ifs:List Expr) (scope:Scope) (pos:Pos) (it acc:Value) (env:Env) :
  compTurn (.SetComp elt [⟨target,iter,ifs,0⟩] scope pos) 0 it acc env=(do
   standAt iter.pos
   match ← pyNext it with
   | none=>pure (.done .next)
   | some v=>
    letOwnedTupleGo target it v
    assign target env v
    let mut ok:=true
    for c in ifs do
     if ok then ok ← isTrue c env (eval c env)
    if ok then
     (do let v ← eval elt env; standAt elt.pos; let _ ← call (.builtin "set.add") [acc,v])
    again (.compLoop (.SetComp elt [⟨target,iter,ifs,0⟩] scope pos) 0 it acc env)):=by rfl
section
variable {prog:Program} {w:World} {A:Around} {s:Shared} {R:Result→Shared→Prop}
theorem ef {elt target iter ifs rest scope pos it acc env}
  (h0:codeAny (model prog w) A (.compLoop (.SetComp elt (⟨target,iter,ifs,0⟩ :: rest) scope pos) 0 it acc env) R s)
  (h:wpAny (model prog w) A (pyIter it) (fun it' s'=>codeAny (model prog w) A (.compLoop (.SetComp elt (⟨target,iter,ifs,0⟩ :: rest) scope pos) 0 it' acc env) R s')
   (notedBy (model prog w) A env fun x s'=>R (.error x) s') s) :
  codeAny (model prog w) A (.compStart (.SetComp elt (⟨target,iter,ifs,0⟩ :: rest) scope pos) 0 it acc env) R s:=by
 refine codeAny_of_tree ?_
 show wpAny _ _ ((compStart (.SetComp elt (⟨target,iter,ifs,0⟩ :: rest) scope pos) 0 it acc env).onRaise (fun x=>do noteFrame x env; standAt theWindowsPlace)) _ _ s
 refine wpAny_notedAt ?_
 unfold compStart
 show wpAny _ _ (ask >>= _) _ _ s
 refine WB (wpAny_askSetting (wpAny_ite ?_))
 split
 ·exact WQ (And.intro rfl h0)
 ·refine WB (wpAny_rule ?_)
  show wpAny _ _ (standAt iter.pos >>= _) _ _ s
  exact WB (wpAny_standAt (WB (wpAny_mono h (fun it' s' h'=>WQ (And.intro rfl h')) fun _ _ x=>x)))
end
set_option genCtorIdx true in
inductive Ty where | str | int | tuple | list | dict | bool | type | range
set_option genCtorIdx true in
inductive Bf where | len | sorted | max
set_option genCtorIdx true in
inductive AV where
 | none | bool (b:Bool) | int (i:Int) | str (s:List Nat) | ref (r:Nat) | obj (a:Nat) | typ (t:Ty) | bi (f:Bf)
inductive AO where
 | inst (C:Nat) (fs:List (Nat × AV))
 | dict (es:List (AV × AV)) (ep:Nat)
 | list (xs:List AV)
 | tuple (xs:List AV)
 | range (lo hi:Int)
 | exc (C:Nat) (fs:List (Nat × AV))
 | set (xs:List Nat) (o:Option (Nat × List Nat))
set_option genCtorIdx true in
inductive Bop where | add | sub | mul | mod | fdiv
set_option genCtorIdx true in
inductive Cop where | eq | ne | lt | le | gt | ge | is | isnt | isin | notin
mutual
inductive PE where
 | none | bool (b:Bool) | int (i:Int) | str (s:List Nat) | bad
 | loc (x:Nat) | glb (x:Nat)
 | attr (o:PE) (a:Nat)
 | call (f:PE) (args:PEs)
 | meth (o:PE) (m:Nat) (args:PEs)
 | bin (op:Bop) (l r:PE) | cmp (op:Cop) (l r:PE) | cmp2 (a:PE) (o1:Cop) (b:PE) (o2:Cop) (c:PE)
 | and (l:PEs) | or (l:PEs) | not (e:PE) | neg (e:PE)
 | sub (o i:PE) | slice (o:PE) (up:Bool) (i:PE)
 | list (l:PEs) | tuple (l:PEs) | dict (l:PEs)
 | listc (elt:PE) (xs:List Nat) (it:PE) (ifs:PEs)
 | dictc (k v:PE) (x:Nat) (it:PE) (ifs:PEs)
 | setc (elt:PE) (x:Nat) (it:PE) (ifs:PEs)
inductive PEs where
 | nil
 | cons (e:PE) (l:PEs)
end
mutual
inductive PS where
 | expr (e:PE) | ret (e:PE) | ret0 | asg (x:Nat) (e:PE) | asgA (o:PE) (a:Nat) (e:PE) | asgS (o i e:PE) | asgT (xs:List Nat) (e:PE) | asgW (xs:List Nat) (e:PE) | asgC (x:Nat) (v:PE) (xs:List Nat) (it:PE) (ifs:PEs) | asgE (x:Nat) (v:PE) (y:Nat) (it:PE) (ifs:PEs)
 | delS (o i:PE) | ite (t:PE) (b e:PSs) | whl (t:PE) (b:PSs) | for1 (xs:List Nat) (it:PE) (b:PSs)
 | raise (e:PE) | reraise | try (b:PSs) (cls:Nat) (nm:Nat) (h:PSs) | pass | bad
inductive PSs where
 | nil
 | cons (s:PS) (l:PSs)
end


structure FI where
 params:List Nat
 dfl:List AV
 body:PSs
structure CI where
 meths:List (Nat × Nat)
 flds:List Nat
structure Tab where
 fns:List (Nat × FI)
 cls:List (Nat × CI)
 glb:List (Nat × AV)
 top:List (Nat × List AV)
noncomputable abbrev Loc:=List (Nat × AV)
noncomputable def lk {α:Type} (l:List (Nat × α)) (x:Nat):Option α:=@List.rec _ (fun _=>Option α) none (fun p _ r=>cond (Nat.beq p.1 x) (some p.2) r) l
noncomputable def pt {α:Type} (l:List (Nat × α)) (x:Nat) (v:α):List (Nat × α):=@List.rec _ (fun _=>List (Nat × α)) [(x,v)] (fun p t r=>cond (Nat.beq p.1 x) ((p.1,v) :: t) (p :: r)) l
theorem jl {a b:Nat} (h:a≠b):Nat.beq a b=false:=Bool.eq_false_iff.mpr fun e=>h (Nat.eq_of_beq_eq_true e)
theorem bC {α:Type} (k:Nat) (w:α) (r:List (Nat × α)) (x:Nat):lk ((k,w) :: r) x=if k=x then some w else lk r x:=by
 show cond (Nat.beq k x) (some w) (lk r x)=_
 by_cases h:k=x
 ·rw [if_pos h,h,Nat.beq_refl]; rfl
 ·rw [if_neg h,jl h]; rfl
theorem uj {α:Type} (k:Nat) (w:α) (r:List (Nat × α)) (x:Nat) (v:α):pt ((k,w) :: r) x v=if k=x then (k,v) :: r else (k,w) :: pt r x v:=by
 show cond (Nat.beq k x) ((k,v) :: r) ((k,w) :: pt r x v)=_
 by_cases h:k=x
 ·rw [if_pos h,h,Nat.beq_refl]; rfl
 ·rw [if_neg h,jl h]; rfl
theorem bc {α:Type} (l:List (Nat × α)) (x:Nat) (v:α) (y:Nat):lk (pt l x v) y=if y=x then some v else lk l y:=by
 induction l with
 | nil=>
  show lk [(x,v)] y=_
  rw [bC]
  by_cases h:x=y
  ·rw [if_pos h,if_pos h.symm]
  ·rw [if_neg h,if_neg (Ne.symm h)]
 | cons p r ih=>
  obtain ⟨k,w⟩:=p
  rw [uj]
  by_cases h:k=x
  ·subst h
   rw [if_pos rfl,bC,bC]
   by_cases q:k=y
   ·rw [if_pos q,if_pos q.symm]
   ·rw [if_neg q,if_neg (Ne.symm q),if_neg q]
  ·rw [if_neg h,bC,bC,ih]
   by_cases q:k=y
   ·subst q; rw [if_pos rfl,if_pos rfl,if_neg h]
   ·rw [if_neg q,if_neg q]
noncomputable def dec (f:Nat):Nat→List Nat:=@Nat.rec (fun _=>Nat→List Nat) (fun _=>[]) (fun _ ih c=>cond (Nat.beq c 0) [] (((c - 1) % 256) :: ih ((c - 1) / 256))) f
noncomputable def nm (c:Nat):List Nat:=dec c c
structure Hp where
 m:Nat→Option AO
 n:Nat
noncomputable def Hp.get (T:Hp) (r:Nat):Option AO:=if r<T.n then T.m r else none
noncomputable def aq (T:Hp) (o:AO):Hp:=⟨fun r=>if r=T.n then some o else T.m r,T.n+1⟩
noncomputable def aI (T:Hp) (r:Nat) (o:AO):Hp:=⟨fun x=>if x=r then some o else T.m x,T.n⟩
theorem aP {T:Hp} {r:Nat} {o:AO} (h:T.get r=some o):r<T.n:=by
 unfold Hp.get at h
 by_cases q:r<T.n
 ·exact q
 ·rw [if_neg q] at h; cases h
theorem ce (T:Hp) (o:AO) (r:Nat):(aq T o).get r=if r=T.n then some o else T.get r:=by
 show (if r<T.n+1 then (if r=T.n then some o else T.m r) else none)=if r=T.n then some o else if r<T.n then T.m r else none
 by_cases q:r=T.n
 ·rw [if_pos q,if_pos q,if_pos (by rw [q]; exact Nat.lt_succ_self _)]
 ·rw [if_neg q,if_neg q]
  by_cases p:r<T.n
  ·rw [if_pos p,if_pos (Nat.lt_succ_of_lt p)]
  ·rw [if_neg p,if_neg fun z=>(Nat.lt_succ_iff_lt_or_eq.mp z).elim p q]
theorem ag (T:Hp) (o:AO):(aq T o).get T.n=some o:=by rw [ce,if_pos rfl]
theorem af {T:Hp} {o a:AO} {r:Nat} (h:T.get r=some a):(aq T o).get r=some a:=by rw [ce,if_neg (Nat.ne_of_lt (aP h))]; exact h
theorem ew (T:Hp) (o:AO) (r x:Nat) (lt:r<T.n):(aI T r o).get x=if x=r then some o else T.get x:=by
 show (if x<T.n then (if x=r then some o else T.m x) else none)=if x=r then some o else if x<T.n then T.m x else none
 by_cases q:x=r
 ·rw [if_pos q,if_pos q,if_pos (by rw [q]; exact lt)]
 ·rw [if_neg q,if_neg q]
theorem ac {T:Hp} {o a:AO} {r:Nat} (h:T.get r=some a):(aI T r o).get r=some o:=by rw [ew T o r r (aP h),if_pos rfl]
theorem wN {T:Hp} {o a b:AO} {r x:Nat} (h:T.get r=some a) (ne:x≠r) (g:T.get x=some b):(aI T r o).get x=some b:=by rw [ew T o r x (aP h),if_neg ne]; exact g
end Mine.Internal
end
section
open PySem PySem.W PyProof.Rows
namespace Mine.Internal
noncomputable abbrev S (l:List Nat):Str:=⟨l.toArray⟩
noncomputable abbrev nmS (c:Nat):Str:=S (nm c)

noncomputable def enc (l:List Nat):Nat:=@List.rec Nat (fun _=>Nat) 0 (fun d _ r=>r * 256+d+1) l
theorem pi (f:Nat):∀ c:Nat,c≤f→enc (dec f c)=c:=by
 induction f with
 | zero=>intro c h; rw [Nat.le_zero.mp h]; rfl
 | succ f ih=>
  intro c h
  show enc (cond (Nat.beq c 0) [] (((c - 1) % 256) :: dec f ((c - 1) / 256)))=c
  by_cases hc:c=0
  ·subst hc; rfl
  ·rw [jl hc]
   show enc (dec f ((c - 1) / 256)) * 256+(c - 1) % 256+1=c
   rw [ih _ (Nat.le_trans (Nat.div_le_self _ _) (Nat.sub_le_of_le_add h)),Nat.div_add_mod']
   exact Nat.sub_one_add_one hc
theorem wT {a b:Nat} (h:nm a=nm b):a=b:=by
 have:=congrArg enc h
 unfold nm at this
 rwa [pi _ _ (Nat.le_refl _),pi _ _ (Nat.le_refl _)] at this
theorem qG {a b:List Nat} (h:S a=S b):a=b:=by injection h with h; exact congrArg Array.toList h
theorem db {a b:Nat} (h:nmS a=nmS b):a=b:=wT (qG h)

noncomputable def Ty.nm:Ty→String
 | .str=>"str" | .int=>"int" | .tuple=>"tuple" | .list=>"list" | .dict=>"dict" | .bool=>"bool" | .type=>"type" | .range=>"range"
noncomputable def Bf.id:Bf→String
 | .len=>"len" | .sorted=>"sorted" | .max=>"max"

noncomputable def VR (n:Nat) (ρ:Nat→Addr):AV→Value→Prop
 | .none,v=>v=.none
 | .bool b,v=>v=.bool b
 | .int i,v=>∃ t,v=.int i t
 | .str s,v=>∃ t,v=.str (S s) t
 | .ref r,v=>r<n∧v=.ref (ρ r)
 | .obj a,v=>v=.ref a
 | .typ t,v=>v=.type t.nm
 | .bi f,v=>v=.builtin f.id
noncomputable def VRs (n:Nat) (ρ:Nat→Addr):List AV→List Value→Prop
 | [],[]=>True
 | a :: as,v :: vs=>VR n ρ a v∧VRs n ρ as vs
 | _,_=>False
theorem VR.up {n n':Nat} {ρ ρ':Nat→Addr} (hn:n≤n') (hr:∀ i,i<n→ρ' i=ρ i):∀ {a:AV} {v:Value},VR n ρ a v→VR n' ρ' a v
 | .ref r,v,⟨h1,h2⟩=>⟨Nat.lt_of_lt_of_le h1 hn,by rw [hr r h1]; exact h2⟩
 | .none,_,h | .bool _,_,h | .int _,_,h | .str _,_,h | .obj _,_,h | .typ _,_,h | .bi _,_,h=>h
theorem VRs.up {n n':Nat} {ρ ρ':Nat→Addr} (hn:n≤n') (hr:∀ i,i<n→ρ' i=ρ i) {a:List AV} {v:List Value} (h:VRs n ρ a v):VRs n' ρ' a v:=by
 induction a generalizing v with
 | nil=>cases v with
  | nil=>trivial
  | cons=>exact h.elim
 | cons x a ih=>cases v with
  | nil=>exact h.elim
  | cons y v=>exact ⟨VR.up hn hr h.1,ih h.2⟩
noncomputable def FsR (n:Nat) (ρ:Nat→Addr):List (Nat × AV)→List DictEntry→Prop
 | [],[]=>True
 | (k,a) :: as,e :: es=>(∃ t,e.key=.str (nmS k) t)∧VR n ρ a e.val∧FsR n ρ as es
 | _,_=>False
noncomputable def KR {K:Type} (n:Nat) (ρ:Nat→Addr) (is:AV→K→Prop):List (AV × AV)→List (K × Value)→Prop
 | [],[]=>True
 | (k,a) :: as,(x,v) :: es=>is k x∧VR n ρ a v∧KR n ρ is as es
 | _,_=>False
noncomputable def isS:AV→Str→Prop
 | .str s,x=>x=S s
 | _,_=>False
noncomputable def isI:AV→Int→Prop
 | .int i,x=>x=i
 | _,_=>False
theorem FsR.up {n n':Nat} {ρ ρ':Nat→Addr} (hn:n≤n') (hr:∀ i,i<n→ρ' i=ρ i) {a:List (Nat × AV)} {v:List DictEntry} (h:FsR n ρ a v):FsR n' ρ' a v:=by
 induction a generalizing v with
 | nil=>cases v with
  | nil=>trivial
  | cons=>exact h.elim
 | cons x a ih=>cases v with
  | nil=>exact h.elim
  | cons y v=>exact ⟨h.1,VR.up hn hr h.2.1,ih h.2.2⟩
theorem KR.up {K:Type} {is:AV→K→Prop} {n n':Nat} {ρ ρ':Nat→Addr} (hn:n≤n') (hr:∀ i,i<n→ρ' i=ρ i) {a:List (AV × AV)} {v:List (K × Value)} (h:KR n ρ is a v):KR n' ρ' is a v:=by
 induction a generalizing v with
 | nil=>cases v with
  | nil=>trivial
  | cons=>exact h.elim
 | cons x a ih=>cases v with
  | nil=>exact h.elim
  | cons y v=>exact ⟨h.1,VR.up hn hr h.2.1,ih h.2.2⟩
structure Cx where
 prog:Program
 w:World
 K:Frag
 hb:Heap
 G:Tab

noncomputable def DR (c:Cx) (n:Nat) (ρ:Nat→Addr) (h:Heap) (a:Addr) (es:List (AV × AV)) (ep:Nat):Prop:=
 (a == sysModules)=false∧((∃ kvs,h.DictAt (strKind c.prog c.w) a kvs ep∧KR n ρ isS es kvs)∨(∃ kvs,h.DictAt (intKind c.prog c.w) a kvs ep∧KR n ρ isI es kvs))
theorem DR.up {c:Cx} {n n':Nat} {ρ ρ':Nat→Addr} (hn:n≤n') (hr:∀ i,i<n→ρ' i=ρ i) {h h':Heap} {a:Addr} (ka:∀ o,h.get? a=some o→h'.get? a=some o) {es:List (AV × AV)} {ep:Nat} (x:DR c n ρ h a es ep):DR c n' ρ' h' a es ep:=by
 obtain ⟨x,⟨kvs,y,z⟩ | ⟨kvs,y,z⟩⟩:=x
 ·exact ⟨x,.inl ⟨kvs,y.at' ka,z.up hn hr⟩⟩
 ·exact ⟨x,.inr ⟨kvs,y.at' ka,z.up hn hr⟩⟩
noncomputable def qt (w:World) (h:Heap) (a:Addr) (xs:List Nat) (o:Option (Nat × List Nat)):Prop:=∃ g es ep,okG g=true∧jg w h a g es ep∧(o=none→xs=g)∧(∀ q,o=some q→q=(ep,cond (bT w) [] g)∧SEl xs (e7 w a ep es))
theorem qt.up {w:World} {h h':Heap} {a:Addr} {xs:List Nat} {o:Option (Nat × List Nat)} (k:∀ o,h.get? a=some o→h'.get? a=some o) (x:qt w h a xs o):qt w h' a xs o:=
 let ⟨g,es,ep,h1,h2,h3⟩:=x; ⟨g,es,ep,h1,⟨k _ h2.1,h2.2⟩,h3⟩
noncomputable def OR (c:Cx) (n:Nat) (ρ:Nat→Addr) (h:Heap) (a d:Addr):AO→Prop
 | .inst C fs=>h.get? a=some (instObj C d)∧∃ es k,h.get? d=some (dictOf es k)∧FsR n ρ fs es
 | .dict es ep=>DR c n ρ h a es ep
 | .list xs=>∃ vs k,h.get? a=some (listOf vs.toArray k)∧VRs n ρ xs vs
 | .tuple xs=>∃ vs k,h.get? a=some { cls:=.type "tuple",data:=.seq vs.toArray k }∧VRs n ρ xs vs
 | .range lo hi=>∃ t1 t2 t3,h.get? a=some { cls:=.type "range",data:=.fields #[.int lo t1,.int hi t2,.int 1 t3] }
 | .exc C fs=>(∃ o ws,h.get? a=some o∧o.cls=.ref C∧o.dict=some d∧o.data=.fields ws)∧∃ es k,h.get? d=some (dictOf es k)∧FsR n ρ fs es
 | .set xs o=>qt c.w h a xs o
theorem OR.up {c:Cx} {n n':Nat} {ρ ρ':Nat→Addr} (hn:n≤n') (hr:∀ i,i<n→ρ' i=ρ i) {h h':Heap} {a d:Addr} (ka:∀ o,h.get? a=some o→h'.get? a=some o) (kd:∀ o,h.get? d=some o→h'.get? d=some o) :
  ∀ {o:AO},OR c n ρ h a d o→OR c n' ρ' h' a d o
 | .inst _ _,x=>And.imp (ka _) (Exists.imp fun _=>Exists.imp fun _=>And.imp (kd _) (FsR.up hn hr)) x
 | .dict _ _,x=>DR.up hn hr ka x
 | .list _,x=>Exists.imp (fun _=>Exists.imp fun _=>And.imp (ka _) (VRs.up hn hr)) x
 | .tuple _,x=>Exists.imp (fun _=>Exists.imp fun _=>And.imp (ka _) (VRs.up hn hr)) x
 | .range _ _,x=>Exists.imp (fun _=>Exists.imp fun _=>Exists.imp fun _=>ka _) x
 | .exc _ _,x=>And.imp (Exists.imp fun _=>Exists.imp fun _=>And.imp (ka _) id) (Exists.imp fun _=>Exists.imp fun _=>And.imp (kd _) (FsR.up hn hr)) x
 | .set _ _,x=>qt.up ka x

noncomputable abbrev bl (h:Heap) (a:Addr):Prop:=∃ o,h.get? a=some o
theorem aU {h:Heap} {a b:Addr} (x:bl h a) (y:h.get? b=none):a≠b:=fun e=>by
 refine zE x fun o q=>?_
 rw [e,y] at q; cases q
theorem bo (h:Heap) {a:Addr} (l:h.objs.size≤a):h.get? a=none:=by
 cases q:h.get? a with
 | none=>rfl
 | some o=>exact absurd (Nat.lt_of_lt_of_le (Heap.lt_size q) l) (Nat.lt_irrefl _)
noncomputable abbrev Dl (h:Heap) (a:Addr):Prop:=∃ o es k,h.get? a=some o∧o.data=.dict es k
noncomputable def Off (c:Cx) (ρ δ:Nat→Addr) (n:Nat) (a:Addr):Prop:=∀ i,1≤i→i<n→ρ i≠a∧δ i≠a
structure HR (c:Cx) (ρ δ:Nat→Addr) (T:Hp) (n:Nat) (h:Heap):Prop where
 base:∀ b o,c.hb.get? b=some o→h.get? b=some o
 obj:∀ i o,T.get i=some o→i<n∧OR c n ρ h (ρ i) (δ i) o
 new:∀ i,1≤i→i<n→c.hb.get? (ρ i)=none∧c.hb.get? (δ i)=none
 apart:∀ i j,i<n→j<n→i≠j→ρ i≠ρ j∧ρ i≠δ j∧δ i≠δ j
 liv:∀ i,i<n→bl h (ρ i)∧bl h (δ i)
 ro:1≤n
 old:∀ i,i<1→bl c.hb (ρ i)∧bl c.hb (δ i)
structure Go (c:Cx) (X:Addr→Prop) (ρ δ:Nat→Addr) (n:Nat) (h:Heap) (ρ' δ':Nat→Addr) (n':Nat) (h':Heap):Prop where
 le:n≤n'
 same:∀ i,i<n→ρ' i=ρ i∧δ' i=δ i
 fresh:∀ i,n≤i→i<n'→h.get? (ρ' i)=none∧h.get? (δ' i)=none
 keep:∀ b o,h.get? b=some o→Off c ρ δ n b→¬ X b→∃ sl,h'.get? b=some { o with slots:=sl }∧((∃ es k,o.data=.dict es k)∨sl=o.slots)
 live:∀ b,bl h b→bl h' b
 dct:∀ b,Dl h b→Off c ρ δ n b→Dl h' b
noncomputable abbrev No:Addr→Prop:=fun _=>False
section
variable {c:Cx} {X Y:Addr→Prop} {ρ δ ρ' δ' ρ'' δ'':Nat→Addr} {n n' n'':Nat} {h h' h'':Heap}
theorem Go.refl:Go c X ρ δ n h ρ δ n h:=
 ⟨Nat.le_refl _,fun _ _=>⟨rfl,rfl⟩,fun i h1 h2=>absurd h2 (Nat.not_lt.mpr h1),fun _ o e _ _=>⟨o.slots,e,.inr rfl⟩,fun _ x=>x,fun _ x _=>x⟩
theorem Go.weak (g:Go c X ρ δ n h ρ' δ' n' h') (k:∀ a,bl h a→X a→Y a):Go c Y ρ δ n h ρ' δ' n' h':=⟨g.le,g.same,g.fresh,fun b o e x y=>g.keep b o e x fun z=>y (k b ⟨o,e⟩ z),g.live,g.dct⟩
theorem Go.any (g:Go c No ρ δ n h ρ' δ' n' h'):Go c Y ρ δ n h ρ' δ' n' h':=g.weak fun _ _ z=>z.elim
theorem Go.off (g:Go c X ρ δ n h ρ' δ' n' h') {a:Addr} (x:Off c ρ δ n a) (hl:bl h a):Off c ρ' δ' n' a:=fun i h1 h2=>by
 by_cases q:i<n
 ·rw [(g.same i q).1,(g.same i q).2]; exact x i h1 q
 ·have:=g.fresh i (Nat.not_lt.mp q) h2
  exact ⟨Ne.symm (aU hl this.1),Ne.symm (aU hl this.2)⟩
theorem Go.dead (g:Go c X ρ δ n h ρ' δ' n' h') {a:Addr} (x:h'.get? a=none):h.get? a=none:=by
 cases q:h.get? a with
 | none=>rfl
 | some o=>obtain ⟨o',e⟩:=g.live a ⟨o,q⟩; rw [x] at e; cases e
theorem Go.trans (g:Go c X ρ δ n h ρ' δ' n' h') (g':Go c X ρ' δ' n' h' ρ'' δ'' n'' h''):Go c X ρ δ n h ρ'' δ'' n'' h'' where
 le:=Nat.le_trans g.le g'.le
 same:=fun i q=>by
  have q':=Nat.lt_of_lt_of_le q g.le
  rw [(g'.same i q').1,(g'.same i q').2]; exact g.same i q
 fresh:=fun i h1 h2=>by
  by_cases q:i<n'
  ·rw [(g'.same i q).1,(g'.same i q).2]; exact g.fresh i h1 q
  ·have:=g'.fresh i (Nat.not_lt.mp q) h2
   exact ⟨g.dead this.1,g.dead this.2⟩
 keep:=fun b o e x y=>let ⟨_,e1,d1⟩:=g.keep b o e x y; let ⟨sl,e2,d2⟩:=g'.keep b _ e1 (g.off x ⟨o,e⟩) y; ⟨sl,e2,d2.elim .inl fun q=>d1.imp id q.trans⟩
 live:=fun b x=>g'.live b (g.live b x)
 dct:=fun b x y=>g'.dct b (g.dct b x y) (g.off y (let ⟨o,_,_,e,_⟩:=x; ⟨o,e⟩))
theorem Go.vr (g:Go c X ρ δ n h ρ' δ' n' h') {a:AV} {v:Value} (x:VR n ρ a v):VR n' ρ' a v:=x.up g.le fun i q=>(g.same i q).1
theorem Go.exact (g:Go c X ρ δ n h ρ' δ' n' h') {b:Addr} {o:Obj} (e:h.get? b=some o) (x:Off c ρ δ n b) (y:¬ X b) (nd:∀ es k,o.data≠.dict es k):h'.get? b=some o:=by
 obtain ⟨sl,q,⟨es,k,z⟩ | rfl⟩:=g.keep b o e x y
 ·exact absurd z (nd es k)
 ·exact q
theorem Go.of_keeps (k:∀ b o,h.get? b=some o→h'.get? b=some o):Go c X ρ δ n h ρ δ n h':=
 ⟨Nat.le_refl _,fun _ _=>⟨rfl,rfl⟩,fun i h1 h2=>absurd h2 (Nat.not_lt.mpr h1),fun b o e _ _=>⟨o.slots,k b o e,.inr rfl⟩,fun b ⟨o,e⟩=>⟨o,k b o e⟩,fun b ⟨o,es,i,e,f⟩ _=>⟨o,es,i,k b o e,f⟩⟩
theorem Go.of_ext {a:Addr} (k:Heap.ExtBut a h h') (l:bl h a→bl h' a) (ld:Dl h a→Dl h' a) (x:X a):Go c X ρ δ n h ρ δ n h':=
 ⟨Nat.le_refl _,fun _ _=>⟨rfl,rfl⟩,fun i h1 h2=>absurd h2 (Nat.not_lt.mpr h1),fun b o e _ y=>⟨o.slots,k b o (fun q=>y (q▸x)) e,.inr rfl⟩,fun b z=>by
  by_cases q:b=a
  ·subst q; exact l z
  ·obtain ⟨o,e⟩:=z; exact ⟨o,k b o q e⟩,fun b z _=>by
  by_cases q:b=a
  ·subst q; exact ld z
  ·obtain ⟨o,es,i,e,f⟩:=z; exact ⟨o,es,i,k b o q e,f⟩⟩
end
theorem HR.of_keeps {c:Cx} {ρ δ:Nat→Addr} {T:Hp} {n:Nat} {h h':Heap} (x:HR c ρ δ T n h) (k:∀ b o,h.get? b=some o→h'.get? b=some o):HR c ρ δ T n h' where
 base:=fun b o e=>k b o (x.base b o e)
 obj:=fun i o e=>⟨(x.obj i o e).1,(x.obj i o e).2.up (Nat.le_refl _) (fun _ _=>rfl) (k _) (k _)⟩
 new:=x.new
 apart:=x.apart
 liv:=fun i q=>⟨let ⟨o,e⟩:=(x.liv i q).1; ⟨o,k _ _ e⟩,let ⟨o,e⟩:=(x.liv i q).2; ⟨o,k _ _ e⟩⟩
 ro:=x.ro
 old:=x.old
theorem HR.of_ext {c:Cx} {ρ δ:Nat→Addr} {T:Hp} {n:Nat} {h h':Heap} {a:Addr} (x:HR c ρ δ T n h) (k:Heap.ExtBut a h h') (off:Off c ρ δ n a) (hb:c.hb.get? a=none):HR c ρ δ T n h':=by
 have ne:∀ i,i<n→ρ i≠a∧δ i≠a:=fun i hi=>by
  by_cases r:1≤i
  ·exact off i r hi
  ·have:=x.old i (Nat.not_le.mp r)
   exact ⟨aU this.1 hb,aU this.2 hb⟩
 refine ⟨fun b o e=>k b o (aU ⟨o,e⟩ hb) (x.base b o e),fun i o e=>?_,x.new,x.apart,fun i q=>?_,x.ro,x.old⟩
 ·have q:=x.obj i o e
  exact ⟨q.1,q.2.up (Nat.le_refl _) (fun _ _=>rfl) (fun o e=>k _ o (ne i q.1).1 e) (fun o e=>k _ o (ne i q.1).2 e)⟩
 ·obtain ⟨⟨o1,e1⟩,⟨o2,e2⟩⟩:=x.liv i q
  exact ⟨⟨o1,k _ _ (ne i q).1 e1⟩,⟨o2,k _ _ (ne i q).2 e2⟩⟩

structure FR (c:Cx) (ρ δ:Nat→Addr) (n:Nat) (loc:Loc) (env:Env) (h:Heap):Prop where
 kind:env.scope.kind=.function
 glo:env.globals=mainGlobals
 bui:env.builtins=builtinsNs
 offL:Off c ρ δ n env.locals
 hbL:c.hb.get? env.locals=none
 offC:∀ x a,env.cells.lookup x=some a→Off c ρ δ n a∧a≠env.locals∧bl h a
 hbC:∀ x a,env.kindOf x=some .cell→env.cells.lookup x=some a→c.hb.get? a=none
 inj:∀ x y a,env.cells.lookup x=some a→env.cells.lookup y=some a→x=y
 ns:∃ m,h.Ns env.locals m∧∀ x v,lk loc x=some v→env.kindOf (nmS x)=some .local→∃ val,m (nmS x)=some val∧VR n ρ v val
 cel:∀ x v,lk loc x=some v→env.kindOf (nmS x)=some .cell∨env.kindOf (nmS x)=some .free→∃ a val,env.cells.lookup (nmS x)=some a∧h.IsCell a (some val)∧VR n ρ v val
 celE:∀ x,env.kindOf (nmS x)=some .cell→∃ a v,env.cells.lookup (nmS x)=some a∧h.IsCell a v
theorem da {h:Heap} {a:Addr} {m:Str→Option Value} (x:h.Ns a m):bl h a:=let ⟨o,_,_,e,_⟩:=x; ⟨o,e⟩
theorem gW {h:Heap} {a:Addr} {v:Option Value} (x:h.IsCell a v):bl h a:=let ⟨o,e,_⟩:=x; ⟨o,e⟩
theorem FR.goX {c:Cx} {X:Addr→Prop} {ρ δ ρ' δ':Nat→Addr} {n n':Nat} {h h':Heap} {loc:Loc} {env:Env} (f:FR c ρ δ n loc env h) (g:Go c X ρ δ n h ρ' δ' n' h') (hx:∀ a,a=env.locals∨(∃ x,env.cells.lookup x=some a)→¬ X a):FR c ρ' δ' n' loc env h':=by
 refine zEA f.ns fun m hm hv=>?_
 have kc:∀ {x a v},env.cells.lookup x=some a→h.IsCell a v→h'.IsCell a v:=fun {x a v} e ⟨o,ho,hd⟩=>let ⟨_,q,_⟩:=g.keep a o ho (f.offC x a e).1 (hx a (.inr ⟨x,e⟩)); ⟨_,q,hd⟩
 refine ⟨f.kind,f.glo,f.bui,g.off f.offL (da hm),f.hbL,?_,f.hbC,f.inj,⟨m,?_,fun x v e k=>?_⟩,fun x v e k=>?_,fun x k=>?_⟩
 ·exact fun x a e=>⟨g.off (f.offC x a e).1 (f.offC x a e).2.2,(f.offC x a e).2.1,g.live a (f.offC x a e).2.2⟩
 ·obtain ⟨o,es,ep,ho,r⟩:=hm
  refine zEA (g.keep _ o ho f.offL (hx _ (.inl rfl))) fun _ q _=>?_
  exact ⟨_,es,ep,q,r⟩
 ·obtain ⟨val,a,b⟩:=hv x v e k
  exact ⟨val,a,g.vr b⟩
 ·obtain ⟨a,val,q,i,r⟩:=f.cel x v e k
  exact ⟨a,val,q,kc q i,g.vr r⟩
 ·obtain ⟨a,v,q,i⟩:=f.celE x k
  exact ⟨a,v,q,kc q i⟩
theorem FR.go {c:Cx} {ρ δ ρ' δ':Nat→Addr} {n n':Nat} {h h':Heap} {loc:Loc} {env:Env} (f:FR c ρ δ n loc env h) (g:Go c No ρ δ n h ρ' δ' n' h'):FR c ρ' δ' n' loc env h':=f.goX g fun _ _ z=>z

noncomputable abbrev Kd:=Str→Option NameKind
noncomputable def Bop.op:Bop→Operator
 | .add=>.Add | .sub=>.Sub | .mul=>.Mult | .mod=>.Mod | .fdiv=>.FloorDiv
noncomputable def Cop.op:Cop→CmpOp
 | .eq=>.Eq | .ne=>.NotEq | .lt=>.Lt | .le=>.LtE | .gt=>.Gt | .ge=>.GtE | .is=>.Is | .isnt=>.IsNot | .isin=>.In | .notin=>.NotIn
noncomputable def own? (k:Option NameKind):Bool:=match k with
 | some .local=>true | some .cell=>true | some .free=>true | _=>false
noncomputable def fz (x:Str):Bool:=x == ("__debug__" : Str) || x == ("__classdict__" : Str)
noncomputable def dg:Expr→Bool
 | .Call (.Name id _) [] [] _=>id != ("super" : Str)
 | _=>true
noncomputable def kdC (kd:Kd) (scope:Scope):Kd:=fun x=>(scope.names.map fun p=>if (p.2 == NameKind.free && kd p.1 == some .cell) then (p.1,NameKind.cell) else p).lookup x
noncomputable def o7 (k:Option NameKind) (x:Str):Bool:=k == some .cell && nmS (enc x.cps.toList) == x
noncomputable def dm (kd:Kd) (scope:Scope) (xs:List Nat):Bool:=
 scope.kind == .function && scope.names.all (fun p=>p.2 != .cell && (p.2 != .free || o7 (kd p.1) p.1) && (p.2 != .local || scope.names.lookup p.1 == some .local) && (p.2 != .local || xs.any (fun x=>nmS x == p.1) || p.1 == (".0" : Str))) &&
  xs.all fun x=>scope.names.lookup (nmS x) == some .local
noncomputable def cP (e:PySem.Expr):Bool:=!Nat.beq e.ctorIdx 7
noncomputable def nu (e:PySem.Expr):Bool:=!Nat.beq e.ctorIdx 26
noncomputable def eH? (k:Option NameKind):Bool:=match k with
 | some .local=>true | some .cell=>true | _=>false
noncomputable def MNs (kd:Kd):List Nat→List PySem.Expr→Prop
 | [],l=>l=[]
 | x :: xs,l=>∃ np l',l=.Name (nmS x) np :: l'∧eH? (kd (nmS x))=true∧MNs kd xs l'
noncomputable def MT (kd:Kd) (xs:List Nat) (t:PySem.Expr):Prop:=
 (∃ x np,xs=[x]∧t=.Name (nmS x) np∧eH? (kd (nmS x))=true)∨(∃ l k p,2≤xs.length∧t=.Tuple l k p∧MNs kd xs l)
noncomputable def noStar (e:PySem.Expr):Bool:=!Nat.beq e.ctorIdx 22
noncomputable def eJ:PEs→Nat
 | .nil=>0
 | .cons _ l=>eJ l+1
mutual
noncomputable def ME:PE→Kd→PySem.Expr→Prop
 | .bad,_,_=>True
 | .none,_,x=>∃ k p,x=.Constant .none k p
 | .bool b,_,x=>∃ k p,x=.Constant (.bool b) k p
 | .int i,_,x=>∃ k p,x=.Constant (.int i) k p
 | .str s,_,x=>∃ k p,x=.Constant (.str (S s)) k p
 | .loc y,kd,x=>∃ p,x=.Name (nmS y) p∧own? (kd (nmS y))=true∧fz (nmS y)=false
 | .glb y,kd,x=>∃ p,x=.Name (nmS y) p∧kd (nmS y)=some .globalImplicit∧fz (nmS y)=false
 | .attr o a,kd,x=>∃ o' p,x=.Attribute o' (nmS a) p∧ME o kd o'∧dg o'=true
 | .call f l,kd,x=>∃ f' l' p,x=.Call f' l' [] p∧(∃ y np,f'=.Name y np)∧ME f kd f'∧MEs l kd l'
 | .meth o m l,kd,x=>∃ o' l' ap p,x=.Call (.Attribute o' (nmS m) ap) l' [] p∧ME o kd o'∧dg o'=true∧MEs l kd l'∧(ap.endLine == p.line)=true∧eJ l<29
 | .bin op l r,kd,x=>∃ l' r' p,x=.BinOp l' op.op r' p∧ME l kd l'∧ME r kd r'
 | .cmp op l r,kd,x=>∃ l' r' p,x=.Compare l' [op.op] [r'] p∧ME l kd l'∧ME r kd r'∧behindInMarks op.op r'=false
 | .cmp2 a o1 b o2 z,kd,x=>∃ a' b' z' p,x=.Compare a' [o1.op,o2.op] [b',z'] p∧ME a kd a'∧ME b kd b'∧ME z kd z'∧behindInMarks o1.op b'=false∧behindInMarks o2.op z'=false
 | .and l,kd,x=>∃ l' p,x=.BoolOp .And l' p∧MEs l kd l'
 | .or l,kd,x=>∃ l' p,x=.BoolOp .Or l' p∧MEs l kd l'
 | .not e,kd,x=>∃ e' p,x=.UnaryOp .Not e' p∧ME e kd e'
 | .neg e,kd,x=>∃ e' p,x=.UnaryOp .USub e' p∧ME e kd e'
 | .sub o i,kd,x=>∃ o' i' p,x=.Subscript o' i' p∧ME o kd o'∧ME i kd i'∧nu i'=true
 | .slice o up i,kd,x=>∃ o' i' sp p,x=.Subscript o' (cond up (.Slice none (some i') none sp) (.Slice (some i') none none sp)) p∧ME o kd o'∧ME i kd i'
 | .list l,kd,x=>∃ l' p,x=.List l' p∧MEs l kd l'∧eJ l<1000
 | .tuple l,kd,x=>∃ l' k p,x=.Tuple l' k p∧MEs l kd l'∧eJ l<1000
 | .dict l,kd,x=>∃ ks vs p,x=.Dict ks vs p∧MPs l kd ks vs∧eJ l≤30
 | .listc v xs it ifs,kd,x=>∃ v' tg it' ifs' scope p,x=.ListComp v' [⟨tg,it',ifs',0⟩] scope p∧ME it kd it'∧cP it'=true∧dm kd scope xs=true∧ME v (kdC kd scope) v'∧MT (kdC kd scope) xs tg∧MEs ifs (kdC kd scope) ifs'
 | .dictc k v y it ifs,kd,x=>∃ k' v' tg it' ifs' scope p,x=.DictComp k' v' [⟨tg,it',ifs',0⟩] scope p∧ME it kd it'∧cP it'=true∧dm kd scope [y]=true∧ME k (kdC kd scope) k'∧ME v (kdC kd scope) v'∧MT (kdC kd scope) [y] tg∧MEs ifs (kdC kd scope) ifs'
 | .setc v y it ifs,kd,x=>∃ v' tg it' ifs' scope p,x=.SetComp v' [⟨tg,it',ifs',0⟩] scope p∧ME it kd it'∧cP it'=true∧dm kd scope [y]=true∧ME v (kdC kd scope) v'∧MT (kdC kd scope) [y] tg∧MEs ifs (kdC kd scope) ifs'
noncomputable def MEs:PEs→Kd→List PySem.Expr→Prop
 | .nil,_,l=>l=[]
 | .cons e l,kd,y=>∃ e' l',y=e' :: l'∧ME e kd e'∧MEs l kd l'∧noStar e'=true
noncomputable def MPs:PEs→Kd→List (Option PySem.Expr)→List PySem.Expr→Prop
 | .nil,_,ks,vs=>ks=[]∧vs=[]
 | .cons k .nil,_,_,_=>False
 | .cons k (.cons v l),kd,ks,vs=>∃ k' v' ks' vs',ks=some k' :: ks'∧vs=v' :: vs'∧ME k kd k'∧ME v kd v'∧MPs l kd ks' vs'
end
noncomputable def qN (e:PySem.Expr):Bool:=!Nat.beq e.ctorIdx 25
noncomputable def swp (kd:Kd) (e:PySem.Expr) (y:Str) (np:Pos):Bool:=match e with
 | .ListComp _ _ s p=>kd y == some .local && np.line == p.line && !(s.names.any fun q=>q.1 == y && (q.2 == .local || q.2 == .cell))
 | _=>false
noncomputable def dU (e:PySem.Expr):Bool:=!(Nat.beq e.ctorIdx 8 || (Nat.beq e.ctorIdx 9 || Nat.beq e.ctorIdx 10))
noncomputable def wG (kd:Kd) (e:PySem.Expr) (y:Str) (np:Pos):Bool:=match e with
 | .SetComp _ _ s p=>kd y == some .local && np.line == p.line && !(s.names.any fun q=>q.1 == y && (q.2 == .local || q.2 == .cell))
 | _=>false
noncomputable def j0 (kd:Kd) (ts vs:List PySem.Expr):Option (List Str):=
 if !(ts.length == 2 || ts.length == 3) || vs.length != ts.length then none
 else if vs.any (fun | .Starred ..=>true | _=>false) then none
 else
  let line:=(ts.head?.map (·.pos.line)).getD 0
  let names:=ts.filterMap fun
   | .Name id pos=>if kd id == some .local && pos.line == line then some id else none
   | _=>none
  if names.length != ts.length || names.eraseDups.length != names.length then none
  else if vs.all (foldedForSure 8) then none
  else if vs.all (constantsAlone 8) then none
  else some names
mutual
noncomputable def MS:PS→Kd→Stmt→Prop
 | .bad,_,_=>True
 | .pass,_,x=>∃ p,x=.Pass p
 | .ret0,_,x=>∃ p,x=.Return none p
 | .ret e,kd,x=>∃ e' p,x=.Return (some e') p∧ME e kd e'
 | .expr e,kd,x=>∃ e' p,x=.Expr e' p∧ME e kd e'∧dU e'=true
 | .asg y e,kd,x=>∃ np e' p,x=.Assign [.Name (nmS y) np] e' p∧ME e kd e'∧(dU e'=true∨kd (nmS y)=some .cell)∧eH? (kd (nmS y))=true
 | .asgC y v xs it ifs,kd,x=>∃ np e' p,x=.Assign [.Name (nmS y) np] e' p∧ME (.listc v xs it ifs) kd e'∧swp kd e' (nmS y) np=true
 | .asgE y v z it ifs,kd,x=>∃ np e' p,x=.Assign [.Name (nmS y) np] e' p∧ME (.setc v z it ifs) kd e'∧wG kd e' (nmS y) np=true
 | .asgA o a e,kd,x=>∃ o' ap e' p,x=.Assign [.Attribute o' (nmS a) ap] e' p∧ME o kd o'∧ME e kd e'
 | .asgS o i e,kd,x=>∃ o' i' sp e' p,x=.Assign [.Subscript o' i' sp] e' p∧ME o kd o'∧ME i kd i'∧ME e kd e'∧dU e'=true
 | .asgT xs e,kd,x=>∃ l k tp e' p,x=.Assign [.Tuple l k tp] e' p∧ME e kd e'∧MNs kd xs l∧2≤xs.length∧qN e'=true
 | .asgW xs e,kd,x=>∃ l k tp vs a b p,x=.Assign [.Tuple l k tp] (.Tuple vs a b) p∧ME e kd (.Tuple vs a b)∧j0 kd l vs=some (xs.map nmS)
 | .delS o i,kd,x=>∃ o' i' sp p,x=.Delete [.Subscript o' i' sp] p∧ME o kd o'∧ME i kd i'
 | .ite t b e,kd,x=>∃ t' b' e' p,x=.If t' b' e' p∧ME t kd t'∧MSs b kd b'∧MSs e kd e'
 | .whl t b,kd,x=>∃ t' b' p,x=.While t' b' [] p∧ME t kd t'∧MSs b kd b'
 | .for1 xs it b,kd,x=>∃ t it' b' p,x=.For t it' b' [] p∧MT kd xs t∧ME it kd it'∧cP it'=true∧MSs b kd b'
 | .try b cl y h,kd,x=>∃ b' np h' hp p,x=.Try b' [.ExceptHandler (some (.Name (nmS cl) np)) (some (nmS y)) h' hp] [] [] p∧MSs b kd b'∧MSs h kd h'∧kd (nmS cl)=some .globalImplicit∧fz (nmS cl)=false∧kd (nmS y)=some .local
 | .raise e,kd,x=>∃ e' p,x=.Raise (some e') none p∧ME e kd e'
 | .reraise,_,x=>∃ p,x=.Raise none none p
noncomputable def MSs:PSs→Kd→List Stmt→Prop
 | .nil,_,l=>l=[]
 | .cons s l,kd,y=>∃ s' l',y=s' :: l'∧MS s kd s'∧MSs l kd l'
end
noncomputable def fY (d:Nat) (A:Around):Prop:=A.depth+4 * d<900∧A.units+20 * d<9000∧A.handled=none
noncomputable abbrev Sh (s:Shared) (h:Heap) (t:Nat):Shared:={ s with heap:=h,toks:=t }
noncomputable abbrev Own (env:Env):Addr→Prop:=fun a=>a=env.locals∨∃ x,env.cells.lookup x=some a
noncomputable def FrL (c:Cx) (ρ δ:Nat→Addr) (n:Nat) (h:Heap) (l:List Env):Prop:=∀ e∈l,e.scope.kind≠.module∧∃ L,e.frame=some L∧c.hb.get? L=none∧Off c ρ δ n L∧Dl h L
structure Fm (c:Cx) (ρ δ:Nat→Addr) (n:Nat) (A:Around) (h:Heap) (l:List Env):Prop where
 fr:A.frames=some l
 ok:FrL c ρ δ n h l
theorem Dl.live {h:Heap} {a:Addr} (x:Dl h a):bl h a:=let ⟨o,_,_,e,_⟩:=x; ⟨o,e⟩
theorem Fm.go {c:Cx} {X:Addr→Prop} {ρ δ ρ' δ':Nat→Addr} {n n':Nat} {h h':Heap} {A:Around} {l:List Env} (f:Fm c ρ δ n A h l) (g:Go c X ρ δ n h ρ' δ' n' h'):Fm c ρ' δ' n' A h' l:=
 ⟨f.fr,fun e he=>let ⟨a,L,b,d,o,x⟩:=f.ok e he; ⟨a,L,b,d,g.off o x.live,g.dct L x o⟩⟩
theorem Fm.ext {c:Cx} {ρ δ:Nat→Addr} {n:Nat} {h h':Heap} {A:Around} {l:List Env} {I:Addr} (f:Fm c ρ δ n A h l) (k:Heap.ExtBut I h h') (nd:¬ Dl h I):Fm c ρ δ n A h' l:=
 ⟨f.fr,fun e he=>let ⟨a,L,b,d,o,x⟩:=f.ok e he; ⟨a,L,b,d,o,let ⟨ob,es,i,q,r⟩:=x; ⟨ob,es,i,k L ob (fun z=>nd (z▸x)) q,r⟩⟩⟩
structure At (c:Cx) (d:Nat) (loc:Loc) (T:Hp) (env:Env) (A:Around) (s:Shared) (ρ δ:Nat→Addr):Prop where
 fr:FR c ρ δ T.n loc env s.heap
 hr:HR c ρ δ T T.n s.heap
 ro:fY d A
 fm:∃ e l,Fm c ρ δ T.n A s.heap (e :: l)∧e.frame=env.frame
noncomputable def Kv (c:Cx) (s:Shared) (ρ δ:Nat→Addr) (T T':Hp) (v:AV) (Q:Value→Shared→Prop):Prop:=
 ∀ ρ' δ' h' t' val,Go c No ρ δ T.n s.heap ρ' δ' T'.n h'→HR c ρ' δ' T' T'.n h'→VR T'.n ρ' v val→Q val (Sh s h' t')
noncomputable def Ev (c:Cx) (e:PE) (d:Nat) (loc:Loc) (T:Hp) (v:AV) (T':Hp):Prop:=
 ∀ (x:PySem.Expr) (env:Env) (A:Around) (s:Shared) (ρ δ:Nat→Addr) (Q E:Value→Shared→Prop),ME e env.kindOf x→At c d loc T env A s ρ δ→Kv c s ρ δ T T' v Q→wpAny (model c.prog c.w) A (eval x env) Q E s
noncomputable def Evs (c:Cx) (l:PEs) (d:Nat) (loc:Loc) (T:Hp) (vs:List AV) (T':Hp):Prop:=
 ∀ (x:List PySem.Expr) (env:Env) (A:Around) (s:Shared) (ρ δ:Nat→Addr) (Q:List Value→Shared→Prop) (E:Value→Shared→Prop) (pos:Pos),MEs l env.kindOf x→At c d loc T env A s ρ δ →
  (∀ ρ' δ' h' t' vals,Go c No ρ δ T.n s.heap ρ' δ' T'.n h'→HR c ρ' δ' T' T'.n h'→VRs T'.n ρ' vs vals→Q vals (Sh s h' t'))→wpAny (model c.prog c.w) A (spliced (backTo pos (starEach x env))) Q E s
noncomputable def Tr (c:Cx) (e:PE) (d:Nat) (loc:Loc) (T:Hp) (b:Bool) (T':Hp):Prop:=
 ∀ (x:PySem.Expr) (env:Env) (A:Around) (s:Shared) (ρ δ:Nat→Addr) (Q:Bool→Shared→Prop) (E:Value→Shared→Prop),ME e env.kindOf x→At c d loc T env A s ρ δ →
  (∀ ρ' δ' h' t',Go c No ρ δ T.n s.heap ρ' δ' T'.n h'→HR c ρ' δ' T' T'.n h'→Q b (Sh s h' t'))→wpAny (model c.prog c.w) A (isTrue x env (eval x env)) Q E s
noncomputable def Ca (c:Cx) (a:Nat) (args:List AV) (d:Nat) (T:Hp) (v:AV) (T':Hp):Prop:=
 ∀ (A:Around) (s:Shared) (ρ δ:Nat→Addr) (R:Result→Shared→Prop) (vals:List Value),VRs T.n ρ args vals→HR c ρ δ T T.n s.heap→fY d A→(∃ l,Fm c ρ δ T.n A s.heap l)→Kv c s ρ δ T T' v (fun v s'=>R (.ok (.ret v)) s')→codeAny (model c.prog c.w) A (.call (.ref a) ⟨vals,[]⟩) R s
inductive Fl where | nxt (l:Loc) | ret (v:AV)
noncomputable def Kf (c:Cx) (env:Env) (s:Shared) (ρ δ:Nat→Addr) (T T':Hp) (f:Fl) (Q:Flow→Shared→Prop):Prop:=match f with
 | .nxt l=>∀ ρ' δ' h' t',Go c (Own env) ρ δ T.n s.heap ρ' δ' T'.n h'→HR c ρ' δ' T' T'.n h'→FR c ρ' δ' T'.n l env h'→Q .next (Sh s h' t')
 | .ret v=>∀ ρ' δ' h' t' val,Go c (Own env) ρ δ T.n s.heap ρ' δ' T'.n h'→HR c ρ' δ' T' T'.n h'→VR T'.n ρ' v val→Q (.ret val) (Sh s h' t')
noncomputable def St (c:Cx) (st:PS) (d:Nat) (loc:Loc) (T:Hp) (f:Fl) (T':Hp):Prop:=
 ∀ (x:Stmt) (env:Env) (A:Around) (s:Shared) (ρ δ:Nat→Addr) (Q:Flow→Shared→Prop) (E:Value→Shared→Prop),MS st env.kindOf x→At c d loc T env A s ρ δ→Kf c env s ρ δ T T' f Q→wpAny (model c.prog c.w) A (exec x env) Q E s
noncomputable def Ex (c:Cx) (b:PSs) (d:Nat) (loc:Loc) (T:Hp) (f:Fl) (T':Hp):Prop:=
 ∀ (x:List Stmt) (env:Env) (A:Around) (s:Shared) (ρ δ:Nat→Addr) (Q:Flow→Shared→Prop) (E:Value→Shared→Prop),MSs b env.kindOf x→At c d loc T env A s ρ δ→Kf c env s ρ δ T T' f Q→wpAny (model c.prog c.w) A (execs x env) Q E s
section
variable {c:Cx} {d:Nat} {loc loc':Loc} {T T1 T2 T3:Hp} {env:Env} {A:Around} {s:Shared} {ρ δ ρ' δ':Nat→Addr} {h':Heap} {t':Nat} {v w:AV} {f:Fl} {Q:Value→Shared→Prop} {QF:Flow→Shared→Prop}
theorem At.go (a:At c d loc T env A s ρ δ) (g:Go c No ρ δ T.n s.heap ρ' δ' T1.n h') (hr:HR c ρ' δ' T1 T1.n h'):At c d loc T1 env A (Sh s h' t') ρ' δ':=⟨a.fr.go g,hr,a.ro,let ⟨e,l,f,q⟩:=a.fm; ⟨e,l,f.go g,q⟩⟩
theorem At.fgo {X:Addr→Prop} (a:At c d loc T env A s ρ δ) (g:Go c X ρ δ T.n s.heap ρ' δ' T1.n h'):∃ e l,Fm c ρ' δ' T1.n A h' (e :: l)∧e.frame=env.frame:=let ⟨e,l,f,q⟩:=a.fm; ⟨e,l,f.go g,q⟩
theorem At.fl {X:Addr→Prop} (a:At c d loc T env A s ρ δ) (g:Go c X ρ δ T.n s.heap ρ' δ' T1.n h'):∃ l,Fm c ρ' δ' T1.n A h' l:=let ⟨e,l,f,q⟩:=a.fm; ⟨_,f.go g⟩
theorem Kv.go (k:Kv c s ρ δ T T2 v Q) (g:Go c No ρ δ T.n s.heap ρ' δ' T1.n h'):Kv c (Sh s h' t') ρ' δ' T1 T2 v Q:=fun ρ2 δ2 h2 t2 val g2=>k ρ2 δ2 h2 t2 val (g.trans g2)
theorem Kf.go (k:Kf c env s ρ δ T T2 f QF) (g:Go c (Own env) ρ δ T.n s.heap ρ' δ' T1.n h'):Kf c env (Sh s h' t') ρ' δ' T1 T2 f QF:=by
 cases f with
 | nxt l=>exact fun ρ2 δ2 h2 t2 g2=>k ρ2 δ2 h2 t2 (g.trans g2)
 | ret v=>exact fun ρ2 δ2 h2 t2 val g2=>k ρ2 δ2 h2 t2 val (g.trans g2)
theorem Kv.here (k:Kv c s ρ δ T T v Q) (hr:HR c ρ δ T T.n s.heap) {val:Value} (vr:VR T.n ρ v val):Q val s:=k ρ δ s.heap s.toks val Go.refl hr vr
end
section
variable {c:Cx} {d:Nat} {loc loc':Loc} {T T1 T2 T3:Hp} {v w:AV} {e e2:PE}
theorem bG:Ev c .none d loc T .none T:=by
 rintro _ env A s ρ δ Q E ⟨k,p,rfl⟩ a ct
 exact wpAny_Constant_none (ct.here a.hr rfl)
theorem iU {b:Bool}:Ev c (.bool b) d loc T (.bool b) T:=by
 rintro _ env A s ρ δ Q E ⟨k,p,rfl⟩ a ct
 exact wpAny_Constant_bool (ct.here a.hr rfl)
theorem ya (e1:Ev c e d loc T v T1):St c (.ret e) d loc T (.ret v) T1:=by
 intro _ env A s ρ δ Q E gX0 a ct
 refine zEEA gX0 fun e' p gR0 me=>?_
 clear gX0
 subst gR0
 exact wpAny_Return_some (e1 _ env A s ρ δ _ E me a fun ρ1 δ1 h' t1 va g1 hr1 vr1=>ct ρ1 δ1 h' t1 va g1.any hr1 vr1)
end
noncomputable def ext (ρ:Nat→Addr) (n:Nat) (a:Addr):Nat→Addr:=fun i=>if i=n then a else ρ i
theorem bD (ρ:Nat→Addr) (n:Nat) (a:Addr):ext ρ n a n=a:=if_pos rfl
theorem bx {ρ:Nat→Addr} {n i:Nat} {a:Addr} (h:i<n):ext ρ n a i=ρ i:=if_neg (Nat.ne_of_lt h)
section
variable {c:Cx} {X:Addr→Prop} {ρ δ:Nat→Addr} {T T':Hp} {n:Nat} {h h':Heap} {ao:AO}
theorem HR.grow {a d:Addr} (hr:HR c ρ δ T n h) (e:∀ j,T'.get j=if j=n then some ao else T.get j) (ha:h.get? a=none) (hd:h.get? d=none) (ha':bl h' a) (hd':bl h' d)
  (k:∀ b o,h.get? b=some o→h'.get? b=some o) (or:OR c (n+1) (ext ρ n a) h' a d ao):HR c (ext ρ n a) (ext δ n d) T' (n+1) h'∧Go c X ρ δ n h (ext ρ n a) (ext δ n d) (n+1) h':=by
 have cs:∀ {i},i<n+1→i<n∨i=n:=fun q=>Nat.lt_or_eq_of_le (Nat.le_of_lt_succ q)
 have dh:∀ {x},h.get? x=none→c.hb.get? x=none:=fun {x} q=>by
  cases z:c.hb.get? x with
  | none=>rfl
  | some o=>have:=hr.base x o z; rw [q] at this; cases this
 have lv:∀ {x},bl h x→bl h' x:=fun ⟨o,q⟩=>⟨o,k _ _ q⟩
 refine ⟨⟨fun b o q=>k b o (hr.base b o q),?_,?_,?_,?_,Nat.le_succ_of_le hr.ro,?_⟩,⟨Nat.le_succ n,fun i q=>⟨bx q,bx q⟩,?_,fun b o q _ _=>⟨o.slots,k b o q,.inr rfl⟩,fun b q=>lv q,fun b ⟨o,es,i,q,r⟩ _=>⟨o,es,i,k b o q,r⟩⟩⟩
 ·intro i o q
  rw [e] at q
  by_cases hi:i=n
  ·subst hi
   rw [if_pos rfl] at q
   cases q
   rw [bD,bD]
   exact ⟨Nat.lt_succ_self _,or⟩
  ·rw [if_neg hi] at q
   refine zA (hr.obj i o q) fun q1 q2=>?_
   rw [bx q1,bx q1]
   exact ⟨Nat.lt_succ_of_lt q1,q2.up (Nat.le_succ n) (fun j hj=>bx hj) (k _) (k _)⟩
 ·intro i h1 h2
  rcases cs h2 with q | rfl
  ·rw [bx q,bx q]; exact hr.new i h1 q
  ·rw [bD,bD]; exact ⟨dh ha,dh hd⟩
 ·intro i j h1 h2 ne
  rcases cs h1 with q | rfl
  ·rcases cs h2 with p | rfl
   ·rw [bx q,bx p,bx q,bx p]; exact hr.apart i j q p ne
   ·have:=hr.liv i q
    rw [bx q,bD,bD,bx q]
    exact ⟨aU this.1 ha,aU this.1 hd,aU this.2 hd⟩
  ·rcases cs h2 with p | rfl
   ·have:=hr.liv j p
    rw [bx p,bD,bD,bx p]
    exact ⟨Ne.symm (aU this.1 ha),Ne.symm (aU this.2 ha),Ne.symm (aU this.2 hd)⟩
   ·exact absurd rfl ne
 ·intro i q
  rcases cs q with q | rfl
  ·rw [bx q,bx q]; exact ⟨lv (hr.liv i q).1,lv (hr.liv i q).2⟩
  ·rw [bD,bD]; exact ⟨ha',hd'⟩
 ·intro i q
  have:=Nat.lt_of_lt_of_le q hr.ro
  rw [bx this,bx this]; exact hr.old i q
 ·intro i h1 h2
  obtain rfl:i=n:=Nat.le_antisymm (Nat.le_of_lt_succ h2) h1
  rw [bD,bD]; exact ⟨ha,hd⟩
theorem HR.push {o:Obj} (hr:HR c ρ δ T n h) (e:∀ j,T'.get j=if j=n then some ao else T.get j) (hf:o.isFreed=false) (or:OR c (n+1) (ext ρ n h.objs.size) (h.push o) h.objs.size h.objs.size ao) :
  HR c (ext ρ n h.objs.size) (ext δ n h.objs.size) T' (n+1) (h.push o)∧Go c X ρ δ n h (ext ρ n h.objs.size) (ext δ n h.objs.size) (n+1) (h.push o):=
 hr.grow e (bo _ (Nat.le_refl _)) (bo _ (Nat.le_refl _)) ⟨_,Heap.get?_push_size _ hf⟩ ⟨_,Heap.get?_push_size _ hf⟩ (fun b o' q=>Heap.get?_push_of_some _ q) or
theorem HR.turn {r:Nat} (hr:HR c ρ δ T n h) (ro:1≤r) (lt:r<n) (e:∀ j,T'.get j=if j=r then some ao else T.get j) (k:∀ b o,b≠ρ r→b≠δ r→h.get? b=some o→h'.get? b=some o) (lr:bl h' (ρ r)) (ld:bl h' (δ r)) (or:OR c n ρ h' (ρ r) (δ r) ao) :
  HR c ρ δ T' n h'∧Go c X ρ δ n h ρ δ n h':=by
 have lv:∀ {x},bl h x→bl h' x:=fun {x} z=>by
  by_cases q1:x=ρ r
  ·subst q1; exact lr
  ·by_cases q2:x=δ r
   ·subst q2; exact ld
   ·obtain ⟨o,e⟩:=z; exact ⟨o,k _ _ q1 q2 e⟩
 refine ⟨⟨fun b o q=>?_,?_,hr.new,hr.apart,fun i q=>⟨lv (hr.liv i q).1,lv (hr.liv i q).2⟩,hr.ro,hr.old⟩,⟨Nat.le_refl _,fun _ _=>⟨rfl,rfl⟩,fun i h1 h2=>absurd h2 (Nat.not_lt.mpr h1),fun b o q x _=>?_,fun b q=>lv q,fun b ⟨o,es,i,q,r⟩ x=>⟨o,es,i,k b o (Ne.symm (x _ ro lt).1) (Ne.symm (x _ ro lt).2) q,r⟩⟩⟩
 ·have:=hr.new r ro lt
  exact k b o (aU ⟨o,q⟩ this.1) (aU ⟨o,q⟩ this.2) (hr.base b o q)
 ·intro i o q
  rw [e] at q
  by_cases hi:i=r
  ·subst hi
   rw [if_pos rfl] at q
   cases q
   exact ⟨lt,or⟩
  ·rw [if_neg hi] at q
   refine zA (hr.obj i o q) fun q1 q2=>?_
   have a1:=hr.apart i r q1 lt hi
   have a2:=hr.apart r i lt q1 (Ne.symm hi)
   exact ⟨q1,q2.up (Nat.le_refl _) (fun _ _=>rfl) (fun o' q'=>k _ o' a1.1 a1.2.1 q') (fun o' q'=>k _ o' (Ne.symm a2.2.1) a1.2.2 q')⟩
 ·have:=x r ro lt
  exact ⟨o.slots,k b o (Ne.symm this.1) (Ne.symm this.2) q,.inr rfl⟩
end
noncomputable section
structure vC (K:Frag) (C:Nat) (ci:CI):Prop where
 ga:findIn K (.ref C) "__getattribute__" = some (some (.builtin "object.__getattribute__"))
 hk:findIn K (.ref C) "__getattr__" = some none
 sa:findIn K (.ref C) "__setattr__" = some (some (.builtin "object.__setattr__"))
 over:plainOver K C=true
 makes:makesIn K C=true
 keep:keepIn K (.ref C)=true
 cd:∃ cd,clsIn K C=some cd∧cd.hasDict=true
 flds:∀ a,ci.flds.contains a=true→findIn K (.ref C) (nmS a)=some none
 meths:∀ m f,lk ci.meths m=some f→findIn K (.ref C) (nmS m)=some (some (.ref f))∧typeIn K (.ref f)=some (.type "function")∧keepIn K (.ref f)=true∧ci.flds.contains m=false
noncomputable def d7:List Nat→List Value→List Value→Nat→Option (List (Str × Value))
 | [],[],_,_=>some []
 | x :: xs,a :: as,d,k=>match d7 xs as d (k - 1) with | some l=>some ((nmS x,a) :: l) | none=>none
 | x :: xs,[],d,k=>match Nat.beq k 0 with
  | true=>match d with
   | v :: d'=>match d7 xs [] d' 0 with | some l=>some ((nmS x,v) :: l) | none=>none
   | []=>none
  | false=>none
 | [],_ :: _,_,_=>none
structure vT (K:Frag) (a:Nat) (fi:FI):Prop where
 ex:∃ o fd body dv,K.lookup a=some o∧o.data=.func fd∧fd.body=.stmts body∧codeIn K fd.code fd.qualname=true∧fd.closure=[]∧fd.scope.kind=.function ∧
  fd.scope.isCoroutine=false∧fd.scope.isGenerator=false∧fd.globals=mainGlobals∧fd.builtins=builtinsNs∧MSs fi.body (fun x=>fd.scope.names.lookup x) body ∧
  VRs 0 (fun _=>0) fi.dfl dv∧fi.params.Nodup∧(∀ x∈fi.params,fd.scope.names.lookup (nmS x)=some .local∨fd.scope.names.lookup (nmS x)=some .cell) ∧
  ∀ (vals:List Value) (b:List (Str × Value)),d7 fi.params vals (dv.drop (vals.length - (fi.params.length - fi.dfl.length))) (fi.params.length - fi.dfl.length)=some b→∀ S,peek K S (bindArgs fd ⟨vals,[]⟩)=some b
structure Ok (c:Cx):Prop where
 k:c.K.In c.hb
 nolim:c.hb.NoLimit
 cls:∀ C ci,lk c.G.cls C=some ci→vC c.K C ci
 fns:∀ a fi,lk c.G.fns a=some fi→vT c.K a fi
 keepF:∀ a fi,lk c.G.fns a=some fi→keepIn c.K (.ref a)=true
 nss:∃ mg mb,c.hb.Ns mainGlobals mg∧c.hb.Ns builtinsNs mb∧∀ x:Str,x≠"__name__" → mb x=bootBuiltins x
 glb:∀ x v,lk c.G.glb x=some v→∃ val,VR 0 (fun _=>0) v val∧(nsIn c.K mainGlobals (nmS x)=some (some val)∨(nsIn c.K mainGlobals (nmS x)=some none∧bootBuiltins (nmS x)=some val∧nmS x≠"__name__"))
 top:∀ a xs,lk c.G.top a=some xs→∃ vs k,c.hb.get? a=some { cls:=.type "tuple",data:=.seq vs.toArray k }∧VRs 0 (fun _=>0) xs vs
 sysm:bl c.hb sysModules
section
variable {c:Cx} {ρ δ:Nat→Addr} {n:Nat} {h:Heap} {T:Hp}
theorem HR.k (hr:HR c ρ δ T n h) (ok:Ok c):c.K.In h:=ok.k.keeps hr.base

theorem mJ {e:DictEntry} {k a:Nat} (hk:∃ t,e.key=.str (nmS k) t):e.key.isStr (nmS a)=Nat.beq k a:=by
 obtain ⟨t,hk⟩:=hk
 rw [hk]
 show (nmS k == nmS a)=_
 cases q:Nat.beq k a with
 | true=>rw [Nat.eq_of_beq_eq_true q]; exact beq_self_eq_true _
 | false=>exact beq_false_of_ne fun e=>Nat.ne_of_beq_eq_false q (db e)
theorem FsR.norefs {fs:List (Nat × AV)} {es:List DictEntry} (h:FsR n ρ fs es):es.any (·.refKey)=false:=by
 induction fs generalizing es with
 | nil=>cases es with
  | nil=>rfl
  | cons=>exact h.elim
 | cons p fs ih=>cases es with
  | nil=>exact h.elim
  | cons e es=>
   refine zE h.1 fun t h1=>?_
   rw [List.any_cons,ih h.2.2]
   show (e.refKey || false)=false
   unfold DictEntry.refKey
   rw [h1]; rfl
theorem FsR.look {a:Nat} {fs:List (Nat × AV)} {es:List DictEntry} (h:FsR n ρ fs es) :
  (∀ v,lk fs a=some v→∃ e,es.find? (·.key.isStr (nmS a))=some e∧VR n ρ v e.val)∧(lk fs a=none→es.find? (·.key.isStr (nmS a))=none):=by
 induction fs generalizing es with
 | nil=>cases es with
  | nil=>exact ⟨fun _ e=>(nomatch e),fun _=>rfl⟩
  | cons=>exact h.elim
 | cons p fs ih=>cases es with
  | nil=>exact h.elim
  | cons e es=>
   have q:=mJ (a:=a) h.1
   show (∀ v,cond (Nat.beq p.1 a) (some p.2) (lk fs a)=some v→_)∧(cond (Nat.beq p.1 a) (some p.2) (lk fs a)=none→_)
   rw [List.find?_cons,q]
   cases Nat.beq p.1 a with
   | true=>exact ⟨fun _ e=>by cases e; exact ⟨_,rfl,h.2.1⟩,fun e=>by cases e⟩
   | false=>exact ih h.2.2
theorem eU {fs:List (Nat × AV)} {es:List DictEntry} {k a:Nat} (x:FsR n ρ fs es) :
  (∀ v,lk fs a=some v→∃ val,lookIn (nmS a) (dictOf es k)=some (some val)∧VR n ρ v val)∧(lk fs a=none→lookIn (nmS a) (dictOf es k)=some none):=by
 have z:=x.look (a:=a)
 unfold lookIn
 dsimp only
 constructor
 ·intro v e
  refine zEA (z.1 v e) fun en h1 h2=>?_
  rw [h1]; exact ⟨_,rfl,h2⟩
 ·intro e
  rw [z.2 e]
  dsimp only
  rw [x.norefs]; rfl

theorem VR.handed {a:AV} {v:Value} (x:VR n ρ a v):handedIn v=true:=by
 cases a <;> first
  | (cases x; rfl)
  | (obtain ⟨t,rfl⟩:=x; rfl)
  | (obtain ⟨_,rfl⟩:=x; rfl)
  | (rename_i f; cases x; cases f <;> decide +kernel)

theorem eR {r:Nat} {C:Nat} {fs:List (Nat × AV)} (o:OR c n ρ h (ρ r) (δ r) (.inst C fs)):∃ es k,InstAt h (ρ r) (instObj C (δ r)) C (some (dictOf es k))∧FsR n ρ fs es:=by
 refine zAEEA o fun h1 es k h2 h3=>?_
 exact ⟨es,k,⟨h1,rfl,rfl,h2⟩,h3⟩

theorem rj {K:Frag} {D:Addr} {cd:ClassData} (h:clsIn K D=some cd):∃ o,K.lookup D=some o∧o.data=.cls cd:=by
 unfold clsIn at h
 cases e:K.lookup D with
 | none=>rw [e] at h; cases h
 | some o=>
  rw [e] at h
  refine gp fun gP gH=>?_
  obtain ⟨a,b,dt,sl⟩:=o
  apply gH;clear gH
  cases dt <;> first | (cases h; exact ⟨_,rfl,rfl⟩) | cases h
theorem ng {K:Frag} {C:Addr} {cd:ClassData} {o:Obj} {name:Str} {val:Value} (h1:clsIn K C=some cd) (h2:findIn K (.ref C) name=some none) (hd:cd.hasDict=true) (hl:lookIn name o=some (some val)):findObj K C (some o) name=some (.value val):=by
 unfold findObj
 rw [h1]
 show (findIn K (.ref C) name).bind _=_
 rw [h2]
 show (W.ownOf cd (some o) name).bind _=_
 unfold W.ownOf
 rw [hd,if_pos rfl]
 show (lookIn name o).bind _=_
 rw [hl]
 rfl
theorem pP (ok:Ok c) {A:Around} {s:Shared} {r C a:Nat} {fs:List (Nat × AV)} {v:AV} {expr:Bool} {Q E:Value→Shared→Prop} (hr:HR c ρ δ T n s.heap) (ho:T.get r=some (.inst C fs)) {ci:CI} (hc:lk c.G.cls C=some ci) (hf:ci.flds.contains a=true) (hv:lk fs a=some v)
  (h:∀ val,VR n ρ v val→Q val (Sh s s.heap (s.toks+1))):wpAny (model c.prog c.w) A (getAttr (.ref (ρ r)) (nmS a) expr) Q E s:=by
 refine zEEA (eR (hr.obj r _ ho).2) fun es k I F=>?_
 have CO:=ok.cls C ci hc
 refine zEA CO.cd fun cd hcd hd=>?_
 refine zEA ((eU (k:=k) (a:=a) F).1 v hv) fun val hl vr=>?_
 refine get_value (v:=val) (hr.k ok) I CO.ga ?_ vr.handed (h val vr)
 exact ng hcd (CO.flds a hf) hd hl
end
end
section
variable {M:Model} {prog:Program} {w:World} {A:Around} {s:Shared} {env:Env} {Q E:Value→Shared→Prop}
theorem oE {o:PySem.Expr} {attr:Str} {whole:Sem Value} (hn:dg o=true) (h:wpAny M A whole Q E s):wpAny M A (attributeBase o attr env whole) Q E s:=by
 unfold attributeBase
 cases o <;> try exact h
 rename_i f args kws pos
 cases args with
 | cons=>cases f <;> exact h
 | nil=>cases kws with
  | cons=>cases f <;> exact h
  | nil=>
   cases f <;> try exact h
   rename_i id p
   have:(id != ("super" : Str))=true:=hn
   dsimp only
   rw [if_pos (by rw [this]; rfl)]
   exact h
theorem fW {value:PySem.Expr} {attr:Str} {pos:Pos} (hn:dg value=true) (h:wpAny (model prog w) A (eval value env) (fun o s₁=>wpAny (model prog w) A (getAttr o attr true) Q E s₁) E s) :
  wpAny (model prog w) A (eval (.Attribute value attr pos) env) Q E s:=by
 show wpAny _ _ (attributeBase value attr env (eval value env) >>= fun o=>standAt pos.atName >>= fun _=>holding [o] (getAttr o attr true) >>= fun r=>letTemporaryGo value o r >>= fun _=>pure r) _ _ _
 refine WB (oE hn (wpAny_mono h (fun o s₁ h₁=>WB (wpAny_standAt (WB (WH (wpAny_mono h₁ (fun r s₂ h₂=>WB (wpAny_letTemporaryGo (WQ h₂))) fun _ _ x=>x))))) fun _ _ x=>x))
end
section
variable {c:Cx} {T T':Hp} {s:Shared} {ρ δ:Nat→Addr} {v:AV} {Q:Value→Shared→Prop} {ao:AO}
theorem Kv.push {ob:Obj} {t:Nat} (ct:Kv c s ρ δ T (aq T ao) (.ref T.n) Q) (hr:HR c ρ δ T T.n s.heap) (hf:ob.isFreed=false) (or:OR c (T.n+1) (ext ρ T.n s.heap.objs.size) (s.heap.push ob) s.heap.objs.size s.heap.objs.size ao):Q (.ref s.heap.objs.size) (Sh s (s.heap.push ob) t):=by
 refine zA (hr.push (X:=No) (ce T ao) hf or) fun r1 g1=>?_
 exact ct _ _ _ t _ g1 r1 ⟨Nat.lt_succ_self _,by rw [bD]⟩
theorem co {n:Nat} {a:Addr} {vs:List AV} {vals:List Value} (x:VRs n ρ vs vals):VRs (n+1) (ext ρ n a) vs vals:=x.up (Nat.le_succ _) fun i q=>bx q
theorem VRs.len {n:Nat} {a:List AV} {v:List Value} (h:VRs n ρ a v):a.length=v.length:=by
 induction a generalizing v with
 | nil=>cases v with
  | nil=>rfl
  | cons=>exact h.elim
 | cons x a ih=>cases v with
  | nil=>exact h.elim
  | cons y v=>exact congrArg (·+1) (ih h.2)
end
section
variable {c:Cx} {d:Nat} {loc:Loc} {T T1 T2:Hp} {v:AV} {vs:List AV} {e:PE} {l:PEs}
theorem aD {i:Int}:Ev c (.int i) d loc T (.int i) T:=by
 rintro _ env A s ρ δ Q E ⟨k,p,rfl⟩ a ct
 exact wpAny_Constant_int (ct ρ δ s.heap (s.toks+1) _ Go.refl a.hr ⟨_,rfl⟩)
theorem aQ {x:List Nat}:Ev c (.str x) d loc T (.str x) T:=by
 rintro _ env A s ρ δ Q E ⟨k,p,rfl⟩ a ct
 exact wpAny_Constant_str (ct ρ δ s.heap (s.toks+1) _ Go.refl a.hr ⟨_,rfl⟩)
theorem hF {x:Str} (h:fz x=false):(x == ("__debug__" : Str))=false∧(x == ("__classdict__" : Str))=false:=Bool.or_eq_false_iff.mp h
theorem qV {k:Option NameKind} (h:own? k=true):k=some .local∨k=some .cell∨k=some .free:=by
 cases k with
 | none=>cases h
 | some k=>cases k <;> first | exact .inl rfl | exact .inr (.inl rfl) | exact .inr (.inr rfl) | cases h
theorem aj {x:Nat} (hl:lk loc x=some v):Ev c (.loc x) d loc T v T:=by
 intro _ env A s ρ δ Q E gX0 a ct
 refine zEAA gX0 fun p gR0 hk hd=>?_
 clear gX0
 subst gR0
 have fr:=a.fr
 refine wpAny_Name ?_ (hF hd).1
 rcases qV hk with q | q | q
 ·obtain ⟨m,h1,h2⟩:=fr.ns
  refine zEA (h2 x v hl q) fun val h3 h4=>?_
  exact wpAny_loadName_local fr.kind q h1 h3 (ct.here a.hr h4)
 ·obtain ⟨b,val,h1,h2,h3⟩:=fr.cel x v hl (.inl q)
  exact wpAny_loadName_cell fr.kind q h1 h2 (ct.here a.hr h3)
 ·obtain ⟨b,val,h1,h2,h3⟩:=fr.cel x v hl (.inr q)
  exact wpAny_loadName_free fr.kind q h1 h2 (ct.here a.hr h3) (hF hd).2
theorem dk (ok:Ok c) {x:Nat} (hl:lk c.G.glb x=some v):Ev c (.glb x) d loc T v T:=by
 intro _ env A s ρ δ Q E gX0 a ct
 refine zEAA gX0 fun p gR0 hk hd=>?_
 clear gX0
 subst gR0
 have fr:=a.fr; have hr:=a.hr
 refine zEA (ok.glb x v hl) fun val vr hg=>?_
 refine zEEAA ok.nss fun mg mb h1 h2 h3=>?_
 have q:Q val s:=ct.here hr (vr.up (Nat.zero_le _) fun i z=>absurd z (Nat.not_lt_zero i))
 refine Calls.Name_function_global fr.kind hk ?_ (hF hd).1
 rcases hg with hg | ⟨hg,hb,hn⟩
 ·exact Calls.loadGlobal_global (by rw [fr.glo]; exact h1.keeps hr.base) (mg_of ok.k h1 hg) q
 ·exact Calls.loadGlobal_builtin (by rw [fr.glo]; exact h1.keeps hr.base) (mg_none_of ok.k h1 hg) (by rw [fr.bui]; exact h2.keeps hr.base) ((h3 _ hn).trans hb) q
theorem kS (ok:Ok c) {a r C:Nat} {ci:CI} {fs:List (Nat × AV)} (e1:Ev c e d loc T (.ref r) T1) (ho:T1.get r=some (.inst C fs)) (hc:lk c.G.cls C=some ci) (hf:ci.flds.contains a=true) (hy:lk fs a=some v):Ev c (.attr e a) d loc T v T1:=by
 intro _ env A s ρ δ Q E gX0 at' ct
 refine zEEAA gX0 fun o' p gR0 mo ns=>?_
 clear gX0
 subst gR0
 refine fW ns (e1 _ env A s ρ δ _ E mo at' fun ρ1 δ1 h' t1 va g1 hr1 vr1=>?_)
 rw [vr1.2]
 exact pP ok (s:=Sh s h' t1) hr1 ho hc hf hy fun val vr=>ct ρ1 δ1 h' _ val g1 hr1 vr
theorem ae:Evs c .nil d loc T [] T:=by
 rintro _ env A s ρ δ Q E pos rfl a ct
 exact wpAny_items_nil (ct ρ δ s.heap s.toks [] Go.refl a.hr trivial)
theorem lD {x:PySem.Expr} {xs:List PySem.Expr} {env:Env} (h:noStar x=true):starEach (x :: xs) env=(false,eval x env) :: starEach xs env:=by
 cases x <;> first | rfl | cases h
theorem ai (e1:Ev c e d loc T v T1) (e2:Evs c l d loc T1 vs T2):Evs c (.cons e l) d loc T (v :: vs) T2:=by
 intro _ env A s ρ δ Q E pos gX0 a ct
 refine zEEAAA gX0 fun x xs gR0 me ms ns=>?_
 clear gX0
 subst gR0
 rw [lD ns]
 refine Calls.spliced_cons (e1 _ env A s ρ δ _ E me a fun ρ1 δ1 h' t1 va g1 hr1 vr1=>?_)
 exact e2 _ env A (Sh s h' t1) ρ1 δ1 _ E pos ms (a.go g1 hr1) fun ρ2 δ2 h2 t2 vals g2 hr2 vr2=>ct ρ2 δ2 h2 t2 (va :: vals) (g1.trans g2) hr2 ⟨g2.vr vr1,vr2⟩
theorem cT (e1:Evs c l d loc T vs T1) (hl:vs.length<1000):Ev c (.list l) d loc T (.ref T1.n) (aq T1 (.list vs)):=by
 intro _ env A s ρ δ Q E gX0 a ct
 refine zEEAA gX0 fun l' p gR0 ms _=>?_
 clear gX0
 subst gR0
 refine wpAny_List (e1 _ env A s ρ δ _ E _ ms a fun ρ1 δ1 h' t1 vals g1 hr1 vr1=>⟨?_,?_⟩)
 ·rw [← vr1.len,sizeLine_eq]; exact Nat.le_trans (Nat.le_of_lt hl) (by decide)
 ·exact (Kv.go (t':=t1) ct g1).push hr1 rfl ⟨vals,0,Heap.get?_push_size _ rfl,co vr1⟩
theorem bW (e1:Evs c l d loc T vs T1) (hl:vs.length<1000):Ev c (.tuple l) d loc T (.ref T1.n) (aq T1 (.tuple vs)):=by
 intro _ env A s ρ δ Q E gX0 a ct
 refine zEEEAA gX0 fun l' k p gR0 ms _=>?_
 clear gX0
 subst gR0
 refine wpAny_Tuple (e1 _ env A s ρ δ _ E _ ms a fun ρ1 δ1 h' t1 vals g1 hr1 vr1=>⟨?_,?_⟩)
 ·rw [← vr1.len,sizeLine_eq]; exact Nat.le_trans (Nat.le_of_lt hl) (by decide)
 ·exact (Kv.go (t':=t1) ct g1).push hr1 rfl ⟨vals,0,Heap.get?_push_size _ rfl,co vr1⟩
end
theorem s7 {k:Option NameKind} (h:eH? k=true):k=some .local∨k=some .cell:=by
 cases k with
 | none=>cases h
 | some k=>cases k <;> first | exact .inl rfl | exact .inr rfl | cases h
section
variable {c:Cx} {loc:Loc} {T:Hp} {n:Nat} {env:Env} {A:Around} {s:Shared} {ρ δ:Nat→Addr} {E:Value→Shared→Prop}
theorem mL {h:Heap} {a:Addr} {m:Str→Option Value} (x:h.Ns a m):Dl h a:=let ⟨o,es,ep,e,d,_⟩:=x; ⟨o,es,ep,e,d⟩
theorem x8 {h:Heap} {a:Addr} {v:Option Value} (x:h.IsCell a v) (y:Dl h a):False:=by
 refine zEA x fun o e d=>?_
 refine zEEEA y fun o' es k e' d'=>?_
 rw [e] at e'; cases e'; rw [d] at d'; cases d'
noncomputable def StX (env:Env) (X:Addr→Prop) (x:Nat):Prop:=(env.kindOf (nmS x)=some .local→X env.locals)∧∀ a,env.kindOf (nmS x)=some .cell→env.cells.lookup (nmS x)=some a→X a
theorem iz {x:Nat}:StX env (Own env) x:=⟨fun _=>.inl rfl,fun a _ e=>.inr ⟨_,e⟩⟩
theorem fK {X:Addr→Prop} {x:Nat} {v:AV} {val:Value} {Q:Unit→Shared→Prop} (fr:FR c ρ δ n loc env s.heap) (hr:HR c ρ δ T n s.heap) (vr:VR n ρ v val) (hk:eH? (env.kindOf (nmS x))=true)
  (nx:∀ h' t',Go c X ρ δ n s.heap ρ δ n h'→HR c ρ δ T n h'→FR c ρ δ n (pt loc x v) env h'→Q () (Sh s h' t')) (hX:StX env X x):wpAny (model c.prog c.w) A (storeName env (nmS x) val) Q E s:=by
 rcases s7 hk with q | q
 ·obtain ⟨m,h1,h2⟩:=fr.ns
  refine wpAny_storeName_local q h1 (fun h' hn hs=>nx h' _ (Go.of_ext hs.extBut (fun _=>da hn) (fun _=>mL hn) (hX.1 q)) (hr.of_ext hs.extBut fr.offL fr.hbL) ?_) (by rw [fr.kind]; rfl)
  refine ⟨fr.kind,fr.glo,fr.bui,fr.offL,fr.hbL,?_,fr.hbC,fr.inj,⟨_,hn,?_⟩,?_,?_⟩
  ·intro y a e
   have:=fr.offC y a e
   exact ⟨this.1,this.2.1,let ⟨o,e⟩:=this.2.2; ⟨o,hs.extBut _ o this.2.1 e⟩⟩
  ·intro y w e k
   rw [bc] at e
   by_cases hy:y=x
   ·subst hy; rw [if_pos rfl] at e; cases e; exact ⟨val,if_pos rfl,vr⟩
   ·rw [if_neg hy] at e
    refine zEA (h2 y w e k) fun u h3 h4=>?_
    exact ⟨u,by rw [if_neg fun z=>hy (db z)]; exact h3,h4⟩
  ·intro y w e k
   rw [bc] at e
   by_cases hy:y=x
   ·subst hy; rcases k with k | k <;> (rw [q] at k; cases k)
   ·rw [if_neg hy] at e
    refine zEEAA (fr.cel y w e k) fun a u h3 h4 h5=>?_
    exact ⟨a,u,h3,h4.sameBut hs (fr.offC _ a h3).2.1,h5⟩
  ·intro y k
   refine zEEA (fr.celE y k) fun a u h3 h4=>?_
   exact ⟨a,u,h3,h4.sameBut hs (fr.offC _ a h3).2.1⟩
 ·obtain ⟨a,u,h1,h2⟩:=fr.celE x q
  have hoff:=fr.offC _ a h1
  refine wpAny_storeName_cell fr.kind q h1 h2 (fun h' hc hs=>nx h' s.toks (Go.of_ext hs.extBut (fun _=>gW hc) (fun z=>(x8 h2 z).elim) (hX.2 a q h1)) (hr.of_ext hs.extBut hoff.1 (fr.hbC _ a q h1)) ?_)
  refine zEA fr.ns fun m h3 h4=>?_
  have other:∀ {y b w},y≠x→env.cells.lookup (nmS y)=some b→s.heap.IsCell b w→h'.IsCell b w:=fun {y b w} hy hb hw=>hw.sameBut hs fun z=>hy (db (fr.inj _ _ a (z▸hb) h1))
  refine ⟨fr.kind,fr.glo,fr.bui,fr.offL,fr.hbL,?_,fr.hbC,fr.inj,⟨m,h3.sameBut hs (Ne.symm hoff.2.1),?_⟩,?_,?_⟩
  ·intro y b e
   have:=fr.offC y b e
   exact ⟨this.1,this.2.1,by
    by_cases z:b=a
    ·subst z; exact gW hc
    ·obtain ⟨o,q⟩:=this.2.2; exact ⟨o,hs.extBut _ o z q⟩⟩
  ·intro y w e k
   rw [bc] at e
   by_cases hy:y=x
   ·subst hy; rw [q] at k; cases k
   ·rw [if_neg hy] at e; exact h4 y w e k
  ·intro y w e k
   rw [bc] at e
   by_cases hy:y=x
   ·subst hy; rw [if_pos rfl] at e; cases e; exact ⟨a,val,h1,hc,vr⟩
   ·rw [if_neg hy] at e
    refine zEEAA (fr.cel y w e k) fun b u' h5 h6 h7=>?_
    exact ⟨b,u',h5,other hy h5 h6,h7⟩
  ·intro y k
   by_cases hy:y=x
   ·subst hy; exact ⟨a,_,h1,hc⟩
   ·obtain ⟨b,u',h5,h6⟩:=fr.celE y k
    exact ⟨b,u',h5,other hy h5 h6⟩
theorem eS {x:Nat} {v:AV} {val:Value} {Q:Unit→Shared→Prop} (fr:FR c ρ δ n loc env s.heap) (hr:HR c ρ δ T n s.heap) (vr:VR n ρ v val) (hk:eH? (env.kindOf (nmS x))=true)
  (nx:∀ h' t',Go c (Own env) ρ δ n s.heap ρ δ n h'→HR c ρ δ T n h'→FR c ρ δ n (pt loc x v) env h'→Q () (Sh s h' t')):wpAny (model c.prog c.w) A (storeName env (nmS x) val) Q E s:=fK fr hr vr hk nx iz
end
section
variable {c:Cx} {ρ δ:Nat→Addr} {n:Nat} {T:Hp}
theorem FsR.put {a:Nat} {v:AV} {val:Value} {hsh:Int} {tk:Tok} (vr:VR n ρ v val) {fs:List (Nat × AV)} {es:List DictEntry} (h:FsR n ρ fs es):FsR n ρ (pt fs a v) (putL (nmS a) hsh (.str (nmS a) tk) val es):=by
 induction fs generalizing es with
 | nil=>cases es with
  | nil=>exact ⟨⟨tk,rfl⟩,vr,trivial⟩
  | cons=>exact h.elim
 | cons p fs ih=>cases es with
  | nil=>exact h.elim
  | cons e es=>
   have q:=mJ (a:=a) h.1
   show FsR n ρ (cond (Nat.beq p.1 a) ((p.1,v) :: fs) (p :: pt fs a v)) _
   unfold putL
   rw [q]
   cases Nat.beq p.1 a with
   | true=>rw [if_pos rfl]; exact ⟨h.1,vr,h.2.2⟩
   | false=>rw [if_neg Bool.false_ne_true]; exact ⟨h.1,h.2.1,ih h.2.2⟩
theorem FsR.len {fs:List (Nat × AV)} {es:List DictEntry} (h:FsR n ρ fs es):es.length=fs.length:=by
 induction fs generalizing es with
 | nil=>cases es with
  | nil=>rfl
  | cons=>exact h.elim
 | cons p fs ih=>cases es with
  | nil=>exact h.elim
  | cons e es=>exact congrArg (·+1) (ih h.2.2)
theorem jc (nmx:Str) (hsh:Int) (k v:Value):∀ es:List DictEntry,(putL nmx hsh k v es).length≤es.length+1
 | []=>Nat.le_refl _
 | e :: r=>by
  unfold putL
  split
  ·exact Nat.le_succ _
  ·exact Nat.succ_le_succ (jc nmx hsh k v r)
theorem kZ (ok:Ok c) {A:Around} {s:Shared} {r C a:Nat} {fs:List (Nat × AV)} {v:AV} {val:Value} {Q:Unit→Shared→Prop} {E:Value→Shared→Prop} (hr:HR c ρ δ T T.n s.heap) (ho:T.get r=some (.inst C fs)) {ci:CI} (hc:lk c.G.cls C=some ci) (hf:ci.flds.contains a=true)
  (hl:fs.length<500) (hro:1≤r) (vr:VR T.n ρ v val)
  (nx:∀ h' t',Go c No ρ δ T.n s.heap ρ δ T.n h'→HR c ρ δ (aI T r (.inst C (pt fs a v))) T.n h'→Q () (Sh s h' t')):wpAny (model c.prog c.w) A (setAttr (.ref (ρ r)) (nmS a) val) Q E s:=by
 refine zA (hr.obj r _ ho) fun hlt hor=>?_
 refine zEEA (eR hor) fun es k I F=>?_
 have CO:=ok.cls C ci hc
 refine zEA CO.cd fun cd hcd hd=>?_
 have X:=hr.k ok
 have ht:takerIn c.K C (nmS a)=some none:=by unfold takerIn; rw [CO.flds a hf]; rfl
 refine set_plain X I CO.sa (osa_open (s:={ s with toks:=s.toks+1 }) X I CO.over ht fun b=>?_)
 have D:s.heap.get? (δ r)=some (dictOf es k):=I.dict
 have hfr:(Obj.putName (nmS a) (PyData.keyHash c.w.params (nmS a)) (.str (nmS a) (s.toks+1)) val (dictOf es k)).isFreed=false:=by rw [putName_dict]; rfl
 have D':=Heap.get?_update_self (Obj.putName (nmS a) (PyData.keyHash c.w.params (nmS a)) (.str (nmS a) (s.toks+1)) val) D hfr
 rw [putName_dict] at D'
 refine WB (WQ (WB (WB (wpAny_loadPart I.at_ (WB (Looks.here (s:={ s with toks:=s.toks+1 }) (looks_clsIn X hcd) ?_))))))
 rw [hd]
 refine WQ (a:=some (δ r)) (WB (WQ (WB ?_)))
 unfold nsSet
 refine WB (WB (wpAny_askSetting (WQ (WB (wpAny_mkText (WB (wpAny_loadPart D ?_)))))))
 dsimp only
 have cc:(!es.toArray.any (·.key.isStr (nmS a)) && es.toArray.any (·.refKey))=false:=by
  rw [← Array.any_toList,← Array.any_toList,F.norefs,Bool.and_false]
 rw [aRefKeyMayBeTheName_at,cc]
 refine wpAny_updatePart D ?_
 have hz:(putL (nmS a) (PyData.keyHash c.w.params (nmS a)) (.str (nmS a) (s.toks+1)) val es).toArray.size≤sizeLine+1:=by
  have h1:=jc (nmS a) (PyData.keyHash c.w.params (nmS a)) (.str (nmS a) (s.toks+1)) val es
  rw [List.size_toArray,sizeLine_eq]
  have:=F.len
  omega
 refine WB (wpAny_lookBehind D' (pastItsLine_dict hz) ?_)
 have i1:(s.heap.update (δ r) (Obj.putName (nmS a) (PyData.keyHash c.w.params (nmS a)) (.str (nmS a) (s.toks+1)) val)).get? (ρ r)=some (instObj C (δ r)):=by
  refine (Heap.get?_update_other _ _ ?_).trans hor.1
  intro z
  have:=hor.1
  rw [← z] at this
  have q:some (instObj C (δ r))=some (dictOf es k):=this.symm.trans D
  cases q
 refine zA (hr.turn (X:=No) (h':=s.heap.update (δ r) (Obj.putName (nmS a) (PyData.keyHash c.w.params (nmS a)) (.str (nmS a) (s.toks+1)) val)) hro hlt (ao:=.inst C (pt fs a v)) (fun j=>ew T _ r j hlt) (fun b o n1 n2 q=>(Heap.get?_update_other _ _ (Ne.symm n2)).trans q) ⟨_,i1⟩ ⟨_,D'⟩ ⟨i1,_,_,D',F.put vr⟩) fun r1 g1=>?_
 exact WQ (nx _ _ g1 r1)
end

section
variable {c:Cx} {d:Nat} {loc loc':Loc} {T T1 T2:Hp} {v:AV} {e o:PE} {f:Fl} {st:PS} {b b2:PSs}
theorem eo {e:PySem.Expr} {t:Option PySem.Expr} {l:Nat} {env:Env} (h:dU e=true):swapsWith e t l env=pure false:=by
 cases e <;> first | rfl | cases h
theorem iR {e:PySem.Expr} {y:Str} {np:Pos} {l:Nat} {env:Env} (h:env.kindOf y=some .cell):swapsWith e (some (.Name y np)) l env=pure false:=by
 cases e <;> first | rfl | (show (pure (_ && _ && _ && _):Sem Bool)=_; rw [h,show ((some NameKind.cell == some NameKind.local):Bool)=false from rfl,Bool.and_false,Bool.false_and,Bool.false_and])
theorem vW (e1:Ev c e d loc T v T1):St c (.expr e) d loc T (.nxt loc) T1:=by
 intro _ env A s ρ δ Q E gX0 a ct
 refine zEEAA gX0 fun e' p gR0 me nc=>?_
 clear gX0
 subst gR0
 exact wpAny_Expr_any (e1 _ env A s ρ δ _ E me a fun ρ1 δ1 h' t1 va g1 hr1 vr1=>ct ρ1 δ1 h' t1 g1.any hr1 (a.fr.go g1)) (by unfold interactive; rw [a.fr.kind]; rfl) (eo nc)
theorem xq {x:Nat} (e1:Ev c e d loc T v T1):St c (.asg x e) d loc T (.nxt (pt loc x v)) T1:=by
 intro _ env A s ρ δ Q E gX0 a ct
 refine zEEEAAA gX0 fun np e' p gR0 me nc mk=>?_
 clear gX0
 subst gR0
 exact wpAny_Assign_Name (e1 _ env A s ρ δ _ E me a fun ρ1 δ1 h' t1 va g1 hr1 vr1=>eS (a.fr.go g1) hr1 vr1 mk fun h'' t'' g r f=>ct ρ1 δ1 h'' t'' (g1.any.trans g) r f) (nc.elim eo fun h=>iR h)
theorem xV {t:PE} (w:Bool) (e1:Tr c t d loc T w T1) (e2:Ex c (cond w b b2) d loc T1 f T2):St c (.ite t b b2) d loc T f T2:=by
 intro _ env A s ρ δ Q E gX0 a ct
 refine zEEEEAA gX0 fun t' b' b2' p gR0 me gC0=>?_
 refine zA gC0 fun m1 m2=>?_
 clear gX0
 subst gR0
 refine wpAny_If (e1 _ env A s ρ δ _ E me a fun ρ1 δ1 h' t1 g1 hr1=>?_)
 cases w with
 | true=>exact e2 _ env A _ ρ1 δ1 Q E m1 (a.go g1 hr1) (Kf.go (t':=t1) ct g1.any)
 | false=>exact e2 _ env A _ ρ1 δ1 Q E m2 (a.go g1 hr1) (Kf.go (t':=t1) ct g1.any)
theorem sU (ok:Ok c) {a r C:Nat} {ci:CI} {fs:List (Nat × AV)} (e1:Ev c e d loc T v T1) (e2:Ev c o d loc T1 (.ref r) T2) (ho:T2.get r=some (.inst C fs)) (hc:lk c.G.cls C=some ci) (hf:ci.flds.contains a=true) (hl:fs.length<500) (hro:1≤r):St c (.asgA o a e) d loc T (.nxt loc) (aI T2 r (.inst C (pt fs a v))):=by
 intro _ env A s ρ δ Q E gX0 at' ct
 refine zEEEEAA gX0 fun o' ap e' p gR0 mo me=>?_
 clear gX0
 subst gR0
 refine wpAny_Assign_stores (e1 _ env A s ρ δ _ E me at' fun ρ1 δ1 h' t1 va g1 hr1 vr1=>?_) (by cases e' <;> rfl) (by cases e' <;> rfl)
 show wpAny _ _ (holding [va] (eval o' env) >>= fun ov=>standAt ap.atName >>= fun _=>holding [va,ov] (setAttr ov (nmS a) va) >>= fun _=>release [va,ov] []) _ _ _
 refine WB (WH (e2 _ env A (Sh s h' t1) ρ1 δ1 _ E mo (at'.go g1 hr1) fun ρ2 δ2 h'' t2 vo g2 hr2 vr2=>WB (wpAny_standAt (WB (WH ?_)))))
 rw [vr2.2]
 exact kZ ok (s:=Sh s h'' t2) hr2 ho hc hf hl hro (g2.vr vr1) fun h3 t3 g3 r3=>wpAny_release (ct ρ2 δ2 h3 t3 ((g1.trans (g2.trans g3)).any) r3 (((at'.fr.go g1).go g2).go g3))
theorem xO:Ex c .nil d loc T (.nxt loc) T:=by
 rintro _ env A s ρ δ Q E rfl a ct
 exact wpAny_execs_nil (ct ρ δ s.heap s.toks Go.refl a.hr a.fr)
theorem qO (e1:St c st d loc T (.nxt loc') T1) (e2:Ex c b d loc' T1 f T2):Ex c (.cons st b) d loc T f T2:=by
 intro _ env A s ρ δ Q E gX0 a ct
 refine zEEAA gX0 fun x l gR0 m1 m2=>?_
 clear gX0
 subst gR0
 exact wpAny_execs_cons (e1 _ env A s ρ δ _ E m1 a fun ρ1 δ1 h' t1 g r fr=>e2 _ env A (Sh s h' t1) ρ1 δ1 Q E m2 ⟨fr,r,a.ro,a.fgo g⟩ (Kf.go ct g))
theorem xB (e1:St c st d loc T (.ret v) T1):Ex c (.cons st b) d loc T (.ret v) T1:=by
 intro _ env A s ρ δ Q E gX0 a ct
 refine zEEAA gX0 fun x l gR0 m1 m2=>?_
 clear gX0
 subst gR0
 exact wpAny_execs_cons (e1 _ env A s ρ δ _ E m1 a ct)
end
noncomputable def BR (n:Nat) (ρ:Nat→Addr):Loc→List (Str × Value)→Prop
 | [],[]=>True
 | (x,a) :: l,(y,v) :: r=>y=nmS x∧VR n ρ a v∧BR n ρ l r
 | _,_=>False
section
variable {n:Nat} {ρ:Nat→Addr}
theorem mG {kd:Kd} {y:Str} (r:List (Str × Value)) (m:Str→Option Value) (h:∀ p∈r,p.1≠y):bindL kd r m y=m y:=by
 induction r generalizing m with
 | nil=>rfl
 | cons p r ih=>
  unfold bindL
  rw [ih _ fun q hq=>h q (.tail _ hq)]
  by_cases k:kd p.1=some .local
  ·rw [if_pos k]; exact if_neg (Ne.symm (h p (.head _)))
  ·rw [if_neg k]
theorem nv {kd:Kd} {y:Str} (r:List (Str × Value)) (m:Str→Option Value) (h:∀ p∈r,p.1≠y):bindC kd r m y=m y:=by
 induction r generalizing m with
 | nil=>rfl
 | cons p r ih=>
  unfold bindC
  rw [ih _ fun q hq=>h q (.tail _ hq)]
  by_cases k:kd p.1=some .local
  ·rw [if_pos k]
  ·rw [if_neg k]; exact if_neg (Ne.symm (h p (.head _)))
theorem BR.names {l:Loc} {r:List (Str × Value)} (h:BR n ρ l r):∀ p∈r,∃ x∈l.map (·.1),p.1=nmS x:=by
 induction l generalizing r with
 | nil=>cases r with
  | nil=>exact fun _ hp=>nomatch hp
  | cons=>exact h.elim
 | cons q l ih=>cases r with
  | nil=>exact h.elim
  | cons w r=>
   intro p hp
   rcases List.mem_cons.mp hp with rfl | hp
   ·exact ⟨q.1,.head _,h.1⟩
   ·obtain ⟨z,hz,e⟩:=ih h.2.2 p hp
    exact ⟨z,.tail _ hz,e⟩
theorem BR.look {kd:Kd} {l:Loc} {r:List (Str × Value)} (h:BR n ρ l r) (nd:(l.map (·.1)).Nodup) (x:Nat) (v:AV) (e:lk l x=some v) :
  (kd (nmS x)=some .local→∀ m,∃ val,bindL kd r m (nmS x)=some val∧VR n ρ v val)∧(kd (nmS x)≠some .local→∀ m,∃ val,bindC kd r m (nmS x)=some val∧VR n ρ v val):=by
 induction l generalizing r with
 | nil=>cases e
 | cons q l ih=>cases r with
  | nil=>exact h.elim
  | cons w r=>
   refine gp fun gP gH=>?_
   obtain ⟨y,u⟩:=w
   obtain ⟨k,a⟩:=q
   refine zAA h fun h1 h2 h3=>?_
   apply gH;clear gH
   rw [List.map_cons,List.nodup_cons] at nd
   rw [bC] at e
   by_cases z:k=x
   ·rw [if_pos z] at e
    cases e
    subst z; subst h1
    have ne:∀ p∈r,p.1≠nmS k:=fun p hp z=>by
     refine zEA (h3.names p hp) fun u hu e=>?_
     exact nd.1 (db (z.symm.trans e)▸hu)
    constructor
    ·intro k' m
     unfold bindL
     rw [mG r _ ne,if_pos k',if_pos rfl]
     exact ⟨u,rfl,h2⟩
    ·intro k' m
     unfold bindC
     rw [nv r _ ne,if_neg k',if_pos rfl]
     exact ⟨u,rfl,h2⟩
   ·rw [if_neg z] at e
    have ih:=ih h3 nd.2 e
    exact ⟨fun k m=>by unfold bindL; exact ih.1 k _,fun k m=>by unfold bindC; exact ih.2 k _⟩
end

noncomputable def binds:List Nat→List AV→List AV→Nat→Option Loc
 | [],[],_,_=>some []
 | x :: xs,a :: as,d,k=>(binds xs as d (k - 1)).map fun l=>(x,a) :: l
 | x :: xs,[],v :: d,0=>(binds xs [] d 0).map fun l=>(x,v) :: l
 | _,_,_,_=>none
theorem qC {n:Nat} {ρ:Nat→Addr} {ps:List Nat} {as ds:List AV} {vs dv:List Value} {k:Nat} {l:Loc} (h1:VRs n ρ as vs) (h2:VRs n ρ ds dv) (e:binds ps as ds k=some l):∃ r,d7 ps vs dv k=some r∧BR n ρ l r∧l.map (·.1)=ps:=by
 induction ps generalizing as ds vs dv k l with
 | nil=>cases as with
  | cons=>cases e
  | nil=>cases vs with
   | cons=>exact h1.elim
   | nil=>cases e; exact ⟨[],rfl,trivial,rfl⟩
 | cons x xs ih=>cases as with
  | cons a as=>cases vs with
   | nil=>exact h1.elim
   | cons v vs=>
    have e:(binds xs as ds (k - 1)).map (fun l=>(x,a) :: l)=some l:=e
    refine zEA (Option.map_eq_some_iff.mp e) fun l' q gR0=>?_
    subst gR0
    refine zEAA (ih h1.2 h2 q) fun r h4 h5 h6=>?_
    refine ⟨(nmS x,v) :: r,?_,⟨rfl,h1.1,h5⟩,by rw [List.map_cons,h6]⟩
    show (match d7 xs vs dv (k - 1) with | some l=>some ((nmS x,v) :: l) | none=>none)=_
    rw [h4]
  | nil=>cases vs with
   | cons=>exact h1.elim
   | nil=>cases ds with
    | nil=>cases k <;> cases e
    | cons d ds=>cases dv with
     | nil=>exact h2.elim
     | cons v dv=>cases k with
      | succ=>cases e
      | zero=>
       have e:(binds xs [] ds 0).map (fun l=>(x,d) :: l)=some l:=e
       refine zEA (Option.map_eq_some_iff.mp e) fun l' q gR0=>?_
       subst gR0
       refine zEAA (ih (as:=[]) (vs:=[]) trivial h2.2 q) fun r h4 h5 h6=>?_
       refine ⟨(nmS x,v) :: r,?_,⟨rfl,h2.1,h5⟩,by rw [List.map_cons,h6]⟩
       show (match d7 xs [] dv 0 with | some l=>some ((nmS x,v) :: l) | none=>none)=_
       rw [h4]
theorem VRs.drop {n:Nat} {ρ:Nat→Addr} {a:List AV} {v:List Value} (k:Nat) (h:VRs n ρ a v):VRs n ρ (a.drop k) (v.drop k):=by
 induction k generalizing a v with
 | zero=>exact h
 | succ k ih=>cases a with
  | nil=>cases v with
   | nil=>trivial
   | cons=>exact h.elim
  | cons x a=>cases v with
   | nil=>exact h.elim
   | cons y v=>exact ih h.2
section
variable {c:Cx} {ρ δ:Nat→Addr} {n:Nat} {T:Hp} {s s':Shared}
theorem HR.offNew (hr:HR c ρ δ T n s.heap) {a:Addr} (h:s.heap.get? a=none):Off c ρ δ n a:=fun i h1 h2=>
 ⟨aU (hr.liv i h2).1 h,aU (hr.liv i h2).2 h⟩
theorem HR.dead (hr:HR c ρ δ T n s.heap) {a:Addr} (h:s.heap.get? a=none):c.hb.get? a=none:=by
 cases q:c.hb.get? a with
 | none=>rfl
 | some o=>have:=hr.base a o q; rw [h] at this; cases this
theorem v6:∀ {l:List (Str × Addr)},(l.Pairwise fun x y=>x.2≠y.2)→∀ {x y:Str} {a:Addr},l.lookup x=some a→l.lookup y=some a→x=y:=by
 intro l h x y a hx hy
 exact name_of_addr h (mem_of_lookup hx) (mem_of_lookup hy)
theorem FR.enter {fd:FuncData} {b:List (Str × Value)} {l:Loc} {L:Addr} {code:Value} {f:Option Addr} {q:Str} (hr:HR c ρ δ T n s.heap) (br:BR n ρ l b) (nd:(l.map (·.1)).Nodup)
  (hk:fd.scope.kind=.function) (hg:fd.globals=mainGlobals) (hbu:fd.builtins=builtinsNs) (hL:L=s.heap.objs.size)
  (x:InCallC s L (bindL (fun y=>fd.scope.names.lookup y) b fun _=>none) (cellsFrom (L+1) fd.scope.names []) (bindC (fun y=>fd.scope.names.lookup y) b fun _=>none) s')
  (hc:∀ y∈l.map (·.1),fd.scope.names.lookup (nmS y)=some .local∨fd.scope.names.lookup (nmS y)=some .cell) :
  FR c ρ δ n l (newEnv fd.scope L fd.globals (cellsFrom (L+1) fd.scope.names []) q f code none fd.builtins) s'.heap:=by
 refine gp fun gP gH=>?_
 obtain ⟨⟨hsame,hns,hkeep,hfresh⟩,hcell,hap,hab⟩:=x
 apply gH;clear gH
 have above:∀ y a,(cellsFrom (L+1) fd.scope.names []).lookup y=some a→L<a:=fun y a e=>hab y a (mem_of_lookup e)
 have inl:∀ {y v},lk l y=some v→y∈l.map (·.1):=by
  intro y v
  clear br nd hc hcell hns
  induction l with
  | nil=>intro e; cases e
  | cons p r ih=>
   intro e
   obtain ⟨k,w⟩:=p
   rw [bC] at e
   rw [List.map_cons]
   by_cases z:k=y
   ·subst z; exact .head _
   ·rw [if_neg z] at e; exact .tail _ (ih e)
 have dd:∀ a,L≤a→s.heap.get? a=none:=fun a q=>bo _ (by rw [← hL]; exact q)
 refine ⟨hk,hg,hbu,hr.offNew (dd L (Nat.le_refl _)),?_,?_,?_,fun y z a=>v6 hap,⟨_,hns,?_⟩,?_,?_⟩
 ·exact hr.dead (dd L (Nat.le_refl _))
 ·intro y a e
  have:=above y a e
  exact ⟨hr.offNew (dd a (Nat.le_of_lt this)),Nat.ne_of_gt this,gW (hcell y a e)⟩
 ·intro y a _ e
  have:=above y a e
  exact hr.dead (dd a (Nat.le_of_lt this))
 ·intro y v e k
  exact (br.look nd y v e).1 k _
 ·intro y v e k
  have kl:fd.scope.names.lookup (nmS y)≠some .local:=fun z=>by rcases k with k | k <;> (rw [show (newEnv fd.scope L fd.globals (cellsFrom (L+1) fd.scope.names []) q f code none fd.builtins).kindOf (nmS y)=fd.scope.names.lookup (nmS y) from rfl,z] at k; cases k)
  refine zEA ((br.look (kd:=fun y=>fd.scope.names.lookup y) nd y v e).2 kl fun _=>none) fun val h1 h2=>?_
  have kc:fd.scope.names.lookup (nmS y)=some .cell:=(hc y (inl e)).resolve_left kl
  have:=cellsFrom_some (x:=nmS y) fd.scope.names (L+1) [] (.inl kc)
  refine zE (Option.isSome_iff_exists.mp this) fun a ha=>?_
  exact ⟨a,val,ha,by have:=hcell _ _ ha; rwa [h1] at this,h2⟩
 ·intro y k
  have:=cellsFrom_some (x:=nmS y) fd.scope.names (L+1) [] (.inl k)
  refine zE (Option.isSome_iff_exists.mp this) fun a ha=>?_
  exact ⟨a,_,ha,hcell _ _ ha⟩
end
theorem Fm.enter {c:Cx} {ρ δ:Nat→Addr} {n:Nat} {T:Hp} {s:Shared} {hh:Heap} {A:Around} {l:List Env} {env:Env} {m:Str→Option Value} (f:Fm c ρ δ n A s.heap l) (hr:HR c ρ δ T n s.heap) (hk:env.scope.kind=.function) (keep:∀ b o,s.heap.get? b=some o→hh.get? b=some o) (hn:hh.Ns s.heap.objs.size m) (hf:env.frame=some s.heap.objs.size):Fm c ρ δ n (A.deeper env) hh (env :: l):=by
 have g:Go c No ρ δ n s.heap ρ δ n hh:=Go.of_keeps keep
 have dd:s.heap.get? s.heap.objs.size=none:=bo _ (Nat.le_refl _)
 refine ⟨Around.frames_deeper f.fr,fun e he=>?_⟩
 rcases List.mem_cons.mp he with rfl | he
 ·exact ⟨by rw [hk]; decide,_,hf,hr.dead dd,hr.offNew dd,mL hn⟩
 ·exact (f.go g).ok e he
noncomputable def Fl.out:Fl→AV
 | .nxt _=>.none
 | .ret v=>v
section
variable {c:Cx} {d:Nat} {loc:Loc} {T T1:Hp} {args:List AV} {f:Fl}
theorem rd {a d m k M:Nat} (hk:k≤m) (h:a+m * (d+1)<M):a+k+m * d<M:=by
 rw [Nat.add_assoc,Nat.add_comm k]; exact Nat.lt_of_le_of_lt (Nat.add_le_add_left (Nat.add_le_add_left hk (m * d)) a) h
theorem vJ (ok:Ok c) {a:Nat} {fi:FI} {l:Loc} (hfi:lk c.G.fns a=some fi) (hl:binds fi.params args (fi.dfl.drop (args.length - (fi.params.length - fi.dfl.length))) (fi.params.length - fi.dfl.length)=some l) {A:Around} {s:Shared} {ρ δ:Nat→Addr} {R:Result→Shared→Prop} {vals:List Value} (va:VRs T.n ρ args vals) (hr:HR c ρ δ T T.n s.heap) (ro:fY (d+1) A) (fm:∃ l,Fm c ρ δ T.n A s.heap l)
  (k:∀ body env hh tk,MSs fi.body env.kindOf body→At c d l T env (A.deeper env) (Sh s hh tk) ρ δ→(∀ b o,s.heap.get? b=some o→hh.get? b=some o)→(∀ z,bl s.heap z→¬ Own env z)→(∃ L,env.frame=some L) →
   wpAny (model c.prog c.w) (A.deeper env) (execs body env) (fun f s'=>R (.ok (.ret (match f with | .ret v=>v | _=>.none))) s') (fun e s'=>wpAny (model c.prog c.w) (A.deeper env) (leaving env e) (fun _ s''=>R (.error e) s'') (fun e' s''=>R (.error e') s'') s') (Sh s hh tk)) :
  codeAny (model c.prog c.w) A (.call (.ref a) ⟨vals,[]⟩) R s:=by
 refine gp fun gP gH=>?_
 obtain ⟨fl,fm⟩:=fm
 refine zEEEEAA ((ok.fns _ _ hfi).ex) fun ob fd body dv h1 h2 gC0=>?_
 refine zAAAAAA gC0 fun h3 h4 h5 h6 h7 h8 gC1=>?_
 refine zAAAAAA gC1 fun h9 h10 h11 h12 h13 h14 h15=>?_
 apply gH;clear gH
 have X:=hr.k ok
 have hroom:A.depth<recursionLimit:=Nat.lt_of_le_of_lt (Nat.le_add_right _ _) (Nat.lt_of_lt_of_le ro.1 (by decide))
 have vd:VRs T.n ρ (fi.dfl.drop (args.length - (fi.params.length - fi.dfl.length))) (dv.drop (vals.length - (fi.params.length - fi.dfl.length))):=by
  rw [va.len]
  exact VRs.drop _ (h12.up (Nat.zero_le _) fun i q=>absurd q (Nat.not_lt_zero i))
 refine zEAA (qC va vd hl) fun b hb hbr hnm=>?_
 have BT:BindsTo s fd ⟨vals,[]⟩ b:=kp_binds X (h15 vals b hb)
 refine codeAny_call_function hroom (X _ _ h1) h2 h7 h8 h3 (codeRec_of X h4) (BT _ _ _ _ ?_)
 rw [h5]
 have hkind:∀ x∈b,fd.scope.names.lookup x.1=some .local∨(fd.scope.names.lookup x.1=some .cell∧((cellsFrom (s.heap.objs.size+1) fd.scope.names []).lookup x.1).isSome=true):=by
  intro x hx
  refine zEA (hbr.names x hx) fun y hy e=>?_
  rw [hnm] at hy
  rw [e]
  exact (h14 y hy).imp id fun k=>⟨k,cellsFrom_some _ _ _ (.inl k)⟩
 refine wpAny_newFunctionEnv_cells h6 hkind fun env he s' x=>?_
 subst he
 refine zEE x.toInCall.same fun hh tk hs'=>?_
 have keep:=x.toInCall.keep
 have fr:=FR.enter (q:=fd.qualname ++ ".<locals>.") (f:=some a) (code:=fd.code) hr hbr (by rw [hnm]; exact h13) h6 h9 h10 rfl x (by rw [hnm]; exact h14)
 subst hs'
 refine ⟨(ok.nolim.keeps hr.base).keeps keep,codeAny_func ?_⟩
 have off:∀ z,bl s.heap z→¬ (z=s.heap.objs.size∨∃ y,(cellsFrom (s.heap.objs.size+1) fd.scope.names []).lookup y=some z):=by
  intro z ⟨oz,ez⟩ q
  have hz:=Heap.lt_size ez
  rcases q with q | ⟨y,q⟩
  ·exact absurd hz (by rw [q]; exact Nat.lt_irrefl _)
  ·have:=x.above y z (mem_of_lookup q)
   exact absurd (Nat.lt_trans this hz) (Nat.lt_irrefl _)
 refine k body _ hh _ h11 ⟨fr,hr.of_keeps keep,⟨?_,?_,ro.2.2⟩,?_⟩ keep off ⟨_,rfl⟩
 ·rw [depth_deeper]; exact rd (by decide) ro.1
 ·rw [units_deeper]; exact rd (by decide) ro.2.1
 ·refine ⟨newEnv fd.scope s.heap.objs.size fd.globals (cellsFrom (s.heap.objs.size+1) fd.scope.names []) (fd.qualname ++ ".<locals>.") (some a) fd.code none fd.builtins,fl,fm.enter hr ?_ keep x.toInCall.ns ?_,rfl⟩
  ·exact h6
  ·rfl
theorem vD (ok:Ok c) {a:Nat} {fi:FI} {l:Loc} (hfi:lk c.G.fns a=some fi) (hl:binds fi.params args (fi.dfl.drop (args.length - (fi.params.length - fi.dfl.length))) (fi.params.length - fi.dfl.length)=some l) (e:Ex c fi.body d l T f T1):Ca c a args (d+1) T f.out T1:=by
 intro A s ρ δ R vals va hr ro fm ct
 refine vJ ok hfi hl va hr ro fm fun body env hh tk ms at' keep off _=>e body env _ (Sh s hh tk) ρ δ _ _ ms at' ?_
 have g0:∀ {X:Addr→Prop},Go c X ρ δ T.n s.heap ρ δ T.n hh:=Go.of_keeps keep
 cases f with
 | nxt l'=>exact fun ρ' δ' h'' t' g r _=>ct ρ' δ' h'' t' .none ((g0.trans g).weak off) r rfl
 | ret v=>exact fun ρ' δ' h'' t' val g r vr=>ct ρ' δ' h'' t' val ((g0.trans g).weak off) r vr
end
noncomputable def Bc (c:Cx) (f:AV) (args:List AV) (d:Nat) (T:Hp) (v:AV) (T':Hp):Prop:=
 ∀ (A:Around) (s:Shared) (ρ δ:Nat→Addr) (fv:Value) (vals:List Value) (Q E:Value→Shared→Prop),VR T.n ρ f fv→VRs T.n ρ args vals→HR c ρ δ T T.n s.heap→fY d A→Kv c s ρ δ T T' v Q→wpAny (model c.prog c.w) A (call fv vals) Q E s
noncomputable def Bg (c:Cx) (o:AV) (m:Nat) (id:String) (T:Hp):Prop:=
 ∀ (A:Around) (s:Shared) (ρ δ:Nat→Addr) (v:Value) (pl:Sem Bool) (Q:Value × List Value→Shared→Prop) (E:Value→Shared→Prop),VR T.n ρ o v→HR c ρ δ T T.n s.heap→Q (.builtin id,[v]) s→wpAny (model c.prog c.w) A (getMethod v (nmS m) pl) Q E s
noncomputable def Bm (c:Cx) (id:String) (o:AV) (args:List AV) (d:Nat) (T:Hp) (v:AV) (T':Hp):Prop:=
 ∀ (A:Around) (s:Shared) (ρ δ:Nat→Addr) (ov:Value) (vals:List Value) (Q E:Value→Shared→Prop),VR T.n ρ o ov→VRs T.n ρ args vals→HR c ρ δ T T.n s.heap→fY d A→Kv c s ρ δ T T' v Q→wpAny (model c.prog c.w) A (call (.builtin id) (ov :: vals)) Q E s
section
variable {M:Model} {prog:Program} {w:World} {A:Around} {s:Shared} {env:Env} {E:Value→Shared→Prop}
theorem MEs.plain {kd:Kd} {pos:Pos} {l:PEs} {xs:List PySem.Expr} (ms:MEs l kd xs):(backTo pos (starEach xs env)).any (·.1)=false∧xs.length=eJ l:=by
 induction xs generalizing l with
 | nil=>cases l with
  | nil=>exact ⟨rfl,rfl⟩
  | cons=>obtain ⟨_,_,h,_⟩:=ms; cases h
 | cons x xs ih=>cases l with
  | nil=>cases ms
  | cons e l=>
   refine gp fun gP gH=>?_
   obtain ⟨_,_,h,me,ms,ns⟩:=ms
   apply gH;clear gH
   cases h
   rw [lD ns]
   exact ⟨(ih ms).1,congrArg (·+1) (ih ms).2⟩
theorem dS {kd:Kd} {pos:Pos} {f:Value} {l:PEs} {xs:List PySem.Expr} {Q:Args→Shared→Prop} (ms:MEs l kd xs) (h:wpAny M A (spliced (backTo pos (starEach xs env))) (fun vs s₁=>Q ⟨vs,[]⟩ s₁) E s) :
  wpAny M A (evalArgs f true (backTo pos (starEach xs env)) []) Q E s:=by
 cases xs with
 | nil=>
  unfold evalArgs
  show wpAny M A (spliced [] >>= _) Q E s
  refine WB (wpAny_mono h (fun vs s' h'=>?_) fun _ _ x=>x)
  refine WH ?_
  exact WB (WQ (WB (WQ (WQ h'))))
 | cons x xs=>cases l with
  | nil=>cases ms
  | cons e l=>
   refine gp fun gP gH=>?_
   obtain ⟨_,_,q,me,ms,ns⟩:=ms
   apply gH;clear gH
   cases q
   rw [lD ns] at h ⊢
   exact Calls.evalArgs_plain h
theorem kF {kd:Kd} {o:PySem.Expr} {name:Str} {apos pos:Pos} {l:PEs} {xs:List PySem.Expr} {Q:Value→Shared→Prop} (hn:dg o=true) (ms:MEs l kd xs) (hl:(apos.endLine == pos.line)=true) (hlen:eJ l<29)
  (h:wpAny (model prog w) A (eval o env) (fun ov s₁=>∀ pl,wpAny (model prog w) A (getMethod ov name pl) (fun fx s₂=>wpAny (model prog w) A (callWith pos fx.1 fx.2 (backTo pos (starEach xs env)) []) Q E s₂) E s₁) E s) :
  wpAny (model prog w) A (eval (.Call (.Attribute o name apos) xs [] pos) env) Q E s:=by
 show wpAny _ _ (attributeBase o name env (eval o env) >>= fun ov=>standAt apos.atName >>= fun _=>methodCall o name apos pos env ov (xs.length+0) (backTo pos (starEach xs env)) []) _ _ _
 refine WB (oE hn (wpAny_mono h (fun ov s₁ h₁=>WB (wpAny_standAt ?_)) fun _ _ x=>x))
 have P:=MEs.plain (env:=env) (pos:=pos) ms
 have hf:methodCallForm (xs.length+0) (backTo pos (starEach xs env)) []=true:=by
  unfold methodCallForm
  rw [Bool.and_eq_true,Bool.and_eq_true]
  refine ⟨⟨?_,rfl⟩,?_⟩
  ·rw [List.all_eq_true]
   intro x hx
   have:=List.any_eq_false.mp P.1 x hx
   simpa using this
  ·rw [P.2]; simp; omega
 unfold methodCall calleeOf methodCallPos
 rw [hf,if_pos rfl]
 refine WB (WH (wpAny_mono (h₁ _) (fun fx s₂ h₂=>?_) fun _ _ x=>x))
 rw [hl]
 exact WB (WQ h₂)
end
section
variable {c:Cx} {d:Nat} {loc:Loc} {T T1 T2 T3:Hp} {v:AV} {vs:List AV} {o:PE} {l:PEs}
theorem aS (ok:Ok c) {x a:Nat} {fi:FI} (hx:lk c.G.glb x=some (.obj a)) (hf:lk c.G.fns a=some fi) (e1:Evs c l d loc T vs T1) (e2:Ca c a vs d T1 v T2):Ev c (.call (.glb x) l) d loc T v T2:=by
 intro _ env A s ρ δ Q E gX0 a' ct
 refine gp fun gP gH=>?_
 refine zEEEAAA gX0 fun f' l' p gR0 gN1 mf ms=>?_
 clear gX0
 subst gR0
 obtain ⟨y,np,rfl⟩:=gN1
 apply gH;clear gH
 have P:=MEs.plain (env:=env) (pos:=p) ms
 refine wpAny_Call_NameR (dk ok hx _ env A s ρ δ _ E mf a' fun ρ1 δ1 h' t1 fv g1 hr1 vr1=>?_)
 rw [vr1]
 refine callWith_of (by rw [P.1]; rfl) (keeps_K (ok.keepF a fi hf)) (dS ms (e1 _ env A (Sh s h' t1) ρ1 δ1 _ E p ms (a'.go g1 hr1) fun ρ2 δ2 h2 t2 vals g2 hr2 vr2=>⟨hr2.k ok,wpAny_call ?_⟩))
 exact e2 A (Sh s h2 t2) ρ2 δ2 _ vals vr2 hr2 a'.ro (a'.fl (g1.trans g2)) fun ρ3 δ3 h3 t3 val g3 hr3 vr3=>ct ρ3 δ3 h3 t3 val (g1.trans (g2.trans g3)) hr3 vr3
theorem aN (ok:Ok c) {x:Nat} {f:AV} (hx:lk c.G.glb x=some f) (hf:(∃ b,f=.bi b)∨∃ t,f=.typ t) (e1:Evs c l d loc T vs T1) (e2:Bc c f vs d T1 v T2):Ev c (.call (.glb x) l) d loc T v T2:=by
 intro _ env A s ρ δ Q E gX0 a' ct
 refine gp fun gP gH=>?_
 refine zEEEAAA gX0 fun f' l' p gR0 gN1 mf ms=>?_
 clear gX0
 subst gR0
 obtain ⟨y,np,rfl⟩:=gN1
 apply gH;clear gH
 have P:=MEs.plain (env:=env) (pos:=p) ms
 refine wpAny_Call_NameR (dk ok hx _ env A s ρ δ _ E mf a' fun ρ1 δ1 h' t1 fv g1 hr1 vr1=>?_)
 have args:∀ {f':Value},wpAny (model c.prog c.w) A (evalArgs f' true (backTo p (starEach l' env)) []) (fun as s₁=>wpAny (model c.prog c.w) A (call fv ([] ++ as.pos) as.kw) Q E s₁) E (Sh s h' t1):=fun {f'}=>
  dS ms (e1 _ env A (Sh s h' t1) ρ1 δ1 _ E p ms (a'.go g1 hr1) fun ρ2 δ2 h2 t2 vals g2 hr2 vr2=>e2 A (Sh s h2 t2) ρ2 δ2 fv vals Q E (g2.vr vr1) vr2 hr2 a'.ro fun ρ3 δ3 h3 t3 val g3 hr3 vr3=>ct ρ3 δ3 h3 t3 val (g1.trans (g2.trans g3)) hr3 vr3)
 rcases hf with ⟨b,rfl⟩ | ⟨t,rfl⟩
 ·obtain rfl:=vr1
  exact Calls.callWith_builtin P.1 args
 ·obtain rfl:=vr1
  exact PySem.callWith_type P.1 args
theorem kj (ok:Ok c) {x a fi:Nat} {ci:CI} (hx:lk c.G.glb x=some (.obj a)) (hc:lk c.G.cls a=some ci) (hi:lk ci.meths 6944679725401530464=some fi) (e1:Evs c l (d+1) loc T vs T1) (e2:Ca c fi (.ref T1.n :: vs) d (aq T1 (.inst a [])) .none T2):Ev c (.call (.glb x) l) (d+1) loc T (.ref T1.n) T2:=by
 intro _ env A s ρ δ Q E gX0 a' ct
 refine gp fun gP gH=>?_
 refine zEEEAAA gX0 fun f' l' p gR0 gN1 mf ms=>?_
 clear gX0
 subst gR0
 obtain ⟨y,np,rfl⟩:=gN1
 have P:=MEs.plain (env:=env) (pos:=p) ms
 have CO:=ok.cls a ci hc
 refine zAAA (CO.meths _ _ hi) fun m1 m2 m3 m4=>?_
 apply gH;clear gH
 refine wpAny_Call_NameR (dk ok hx _ env A s ρ δ _ E mf a' fun ρ1 δ1 h' t1 fv g1 hr1 vr1=>?_)
 rw [vr1]
 refine callWith_of (by rw [P.1]; rfl) (keeps_K CO.keep) (dS ms (e1 _ env A (Sh s h' t1) ρ1 δ1 _ E p ms (a'.go g1 hr1) fun ρ2 δ2 hh t2 vals g2 hr2 va=>⟨hr2.k ok,wpAny_call ?_⟩))
 have X:=hr2.k ok
 have m1':findIn c.K (.ref a) "__init__" = some (some (.ref fi)):=by
  rw [← m1]; exact congrArg _ (by decide +kernel)
 refine make_core (makes_of X CO.makes) (looks_findIn X m1') (fun self=>bind_fn X self m2) (.inl rfl) ?_
 have k1:∀ b ob,hh.get? b=some ob→((hh.push emptyDict).push (instObj a hh.objs.size)).get? b=some ob:=fun b ob q=>Heap.get?_push_of_some _ (Heap.get?_push_of_some _ q)
 have i1:((hh.push emptyDict).push (instObj a hh.objs.size)).get? (hh.objs.size+1)=some (instObj a hh.objs.size):=by
  have:=Heap.get?_push_size (hh.push emptyDict) (o:=instObj a hh.objs.size) rfl
  rwa [Heap.size_push] at this
 have i2:((hh.push emptyDict).push (instObj a hh.objs.size)).get? hh.objs.size=some (dictOf [] 0):=Heap.get?_push_of_some _ (Heap.get?_push_size _ rfl)
 refine zA (hr2.grow (X:=No) (ao:=.inst a []) (a:=hh.objs.size+1) (d:=hh.objs.size) (ce T1 _) (bo _ (Nat.le_succ _)) (bo _ (Nat.le_refl _)) ⟨_,i1⟩ ⟨_,i2⟩ k1 ⟨i1,[],0,i2,trivial⟩) fun r1 gg=>?_
 refine e2 _ _ _ _ _ _ ⟨⟨Nat.lt_succ_self _,by rw [bD]⟩,co va⟩ r1 ⟨?_,?_,a'.ro.2.2⟩ (let ⟨l,f⟩:=a'.fl (T1:=aq T1 (.inst a [])) (g1.trans (g2.trans gg)); ⟨l,f.fr,f.ok⟩) fun ρ3 δ3 h3 t3 val g3 hr3 vr3=>⟨vr3,?_⟩
 ·rw [depth_under_make]; exact rd (by decide) a'.ro.1
 ·exact rd (k:=1) (by decide) a'.ro.2.1
 ·refine ct ρ3 δ3 h3 t3 _ (g1.trans (g2.trans (gg.trans g3))) hr3 ⟨Nat.lt_of_lt_of_le (Nat.lt_succ_self _) g3.le,?_⟩
  rw [(g3.same T1.n (Nat.lt_succ_self _)).1,bD]
theorem rK (ok:Ok c) {m r C f:Nat} {fs:List (Nat × AV)} {ci:CI} (e1:Ev c o d loc T (.ref r) T1) (ho:T1.get r=some (.inst C fs)) (hc:lk c.G.cls C=some ci) (hm:lk ci.meths m=some f) (hnf:lk fs m=none) (e2:Evs c l d loc T1 vs T2) (e3:Ca c f (.ref r :: vs) d T2 v T3):Ev c (.meth o m l) d loc T v T3:=by
 intro _ env A s ρ δ Q E gX0 a' ct
 refine zEEEEAA gX0 fun o' l' ap p gR0 mo gC0=>?_
 refine zAAA gC0 fun ns ms hl hlen=>?_
 clear gX0
 subst gR0
 have P:=MEs.plain (env:=env) (pos:=p) ms
 have CO:=ok.cls C ci hc
 refine zAAA (CO.meths _ _ hm) fun m1 m2 m3 m4=>?_
 refine kF ns ms hl hlen (e1 _ env A s ρ δ _ E mo a' fun ρ1 δ1 h' t1 va g1 hr1 vr1 pl=>?_)
 rw [vr1.2]
 refine zEEA (eR (hr1.obj r _ ho).2) fun es k I F=>?_
 have sh:shadowIn (some (dictOf es k)) (nmS m)=some false:=by
  unfold shadowIn
  dsimp only
  rw [(eU (k:=k) (a:=m) F).2 hnf]; rfl
 refine method_fn (s:=Sh s h' t1) (hr1.k ok) I CO.ga CO.hk m1 m2 sh ?_
 refine callWith_of (by rw [P.1]; rfl) (keeps_K m3) (dS ms (e2 _ env A (Sh s h' t1) ρ1 δ1 _ E p ms (a'.go g1 hr1) fun ρ2 δ2 h2 t2 vals g2 hr2 vr2=>⟨hr2.k ok,wpAny_call ?_⟩))
 exact e3 A (Sh s h2 t2) ρ2 δ2 _ _ ⟨g2.vr (a:=.ref r) ⟨vr1.1,rfl⟩,vr2⟩ hr2 a'.ro (a'.fl (g1.trans g2)) fun ρ3 δ3 h3 t3 val g3 hr3 vr3=>ct ρ3 δ3 h3 t3 val (g1.trans (g2.trans g3)) hr3 vr3
theorem bH {m:Nat} {ov:AV} {id:String} (e1:Ev c o d loc T ov T1) (hg:Bg c ov m id T1) (e2:Evs c l d loc T1 vs T2) (e3:Bm c id ov vs d T2 v T3):Ev c (.meth o m l) d loc T v T3:=by
 intro _ env A s ρ δ Q E gX0 a' ct
 refine zEEEEAA gX0 fun o' l' ap p gR0 mo gC0=>?_
 refine zAAA gC0 fun ns ms hl hlen=>?_
 clear gX0
 subst gR0
 have P:=MEs.plain (env:=env) (pos:=p) ms
 refine kF ns ms hl hlen (e1 _ env A s ρ δ _ E mo a' fun ρ1 δ1 h' t1 va g1 hr1 vr1 pl=>?_)
 refine hg A (Sh s h' t1) ρ1 δ1 va pl _ E vr1 hr1 ?_
 refine Calls.callWith_builtin P.1 (dS ms (e2 _ env A (Sh s h' t1) ρ1 δ1 _ E p ms (a'.go g1 hr1) fun ρ2 δ2 h2 t2 vals g2 hr2 vr2=>?_))
 exact e3 A (Sh s h2 t2) ρ2 δ2 va vals Q E (g2.vr vr1) vr2 hr2 a'.ro fun ρ3 δ3 h3 t3 val g3 hr3 vr3=>ct ρ3 δ3 h3 t3 val (g1.trans (g2.trans g3)) hr3 vr3
end
section
variable {M:Model} {A:Around} {s:Shared} {env:Env} {E:Value→Shared→Prop}
theorem dB {b:Bool} {Q:Bool→Shared→Prop} (h:Q b s):wpAny M A (truthy (.bool b)) Q E s:=WQ h
theorem tE {x y:PySem.Expr} {o1:CmpOp} {pos:Pos} {whole:Sem Value} {Q:Bool→Shared→Prop} (h1:behindInMarks o1 y=false)
  (h:wpAny M A (eval x env) (fun a s₁=>wpAny M A (eval y env) (fun b s₂=>wpAny M A (compareOp o1 a b) (fun r s₃=>wpAny M A (truthy r) Q E s₃) E s₂) E s₁) E s) :
  wpAny M A (isTrue (.Compare x [o1] [y] pos) env whole) Q E s:=by
 rw [isTrue_Compare1,markedBehindIn_of_false h1]
 refine WB (wpAny_mono h (fun a s₁ h₁=>WB (WH (wpAny_mono h₁ (fun b s₂ h₂=>WB (wpAny_standAt (WB ?_))) fun _ _ q=>q))) fun _ _ q=>q)
 refine fun Γ p hΓ=>?_
 rw [Sem.wp_operate]
 exact wpAny_mono h₂ (fun r s₃ h₃=>WH h₃) (fun _ _ q=>q) Γ p hΓ
end

noncomputable def Bi (c:Cx) (op:Bop) (a b:AV) (T:Hp) (v:AV) (T':Hp):Prop:=
 ∀ (A:Around) (s:Shared) (ρ δ:Nat→Addr) (va vb:Value) (Q E:Value→Shared→Prop),HR c ρ δ T T.n s.heap→VR T.n ρ a va→VR T.n ρ b vb→Kv c s ρ δ T T' v Q→wpAny (model c.prog c.w) A (binaryOp op.op va vb) Q E s
noncomputable def Cm (c:Cx) (op:Cop) (a b:AV) (T:Hp) (t:Bool):Prop:=
 ∀ (d:Nat) (A:Around) (s:Shared) (ρ δ:Nat→Addr) (va vb:Value) (Q E:Value→Shared→Prop),HR c ρ δ T T.n s.heap→fY d A→VR T.n ρ a va→VR T.n ρ b vb →
  (∀ h' t',Go c No ρ δ T.n s.heap ρ δ T.n h'→HR c ρ δ T T.n h'→Q (.bool t) (Sh s h' t'))→wpAny (model c.prog c.w) A (compareOp op.op va vb) Q E s
noncomputable def Ts (c:Cx) (w:Bool) (l:PEs) (d:Nat) (loc:Loc) (T:Hp) (b:Bool) (T':Hp):Prop:=
 ∀ (x:List PySem.Expr) (env:Env) (A:Around) (s:Shared) (ρ δ:Nat→Addr) (Q:Bool→Shared→Prop) (E:Value→Shared→Prop),MEs l env.kindOf x→At c d loc T env A s ρ δ →
  (∀ ρ' δ' h' t',Go c No ρ δ T.n s.heap ρ' δ' T'.n h'→HR c ρ' δ' T' T'.n h'→Q b (Sh s h' t'))→wpAny (model c.prog c.w) A (allTrue (if w then .And else .Or) x env) Q E s
noncomputable def Bo (c:Cx) (w:Bool) (l:PEs) (d:Nat) (loc:Loc) (T:Hp) (v:AV) (T':Hp):Prop:=
 ∀ (x:List PySem.Expr) (env:Env) (A:Around) (s:Shared) (ρ δ:Nat→Addr) (Q E:Value→Shared→Prop) (pos:Pos),MEs l env.kindOf x→At c d loc T env A s ρ δ→Kv c s ρ δ T T' v Q→wpAny (model c.prog c.w) A (boolOp pos (if w then .And else .Or) (evalEach x env)) Q E s
section
variable {c:Cx} {d:Nat} {loc:Loc} {T T1 T2 T3:Hp} {v a b x:AV} {e e2 e3:PE} {l:PEs} {t w:Bool}
theorem bB {op:Bop} (e1:Ev c e d loc T a T1) (h2:Ev c e2 d loc T1 b T2) (hb:Bi c op a b T2 v T3):Ev c (.bin op e e2) d loc T v T3:=by
 intro _ env A s ρ δ Q E gX0 at' ct
 refine zEEEAA gX0 fun l' r' p gR0 ml mr=>?_
 clear gX0
 subst gR0
 refine wpAny_BinOp (e1 _ env A s ρ δ _ E ml at' fun ρ1 δ1 h1 t1 va g1 hr1 vr1=>?_)
 refine h2 _ env A (Sh s h1 t1) ρ1 δ1 _ E mr (at'.go g1 hr1) fun ρ2 δ2 h2 t2 vb g2 hr2 vr2=>?_
 exact hb A (Sh s h2 t2) ρ2 δ2 va vb Q E hr2 (g2.vr vr1) vr2 (Kv.go ct (g1.trans g2))
theorem fB {op:Cop} (e1:Ev c e d loc T a T1) (h2:Ev c e2 d loc T1 b T2) (hb:Cm c op a b T2 t):Ev c (.cmp op e e2) d loc T (.bool t) T2:=by
 intro _ env A s ρ δ Q E gX0 at' ct
 refine zEEEAAA gX0 fun l' r' p gR0 ml mr hm=>?_
 clear gX0
 subst gR0
 refine wpAny_Compare1 (e1 _ env A s ρ δ _ E ml at' fun ρ1 δ1 h1 t1 va g1 hr1 vr1=>?_) hm
 refine h2 _ env A (Sh s h1 t1) ρ1 δ1 _ E mr (at'.go g1 hr1) fun ρ2 δ2 h2 t2 vb g2 hr2 vr2=>?_
 exact hb d A (Sh s h2 t2) ρ2 δ2 va vb Q E hr2 at'.ro (g2.vr vr1) vr2 fun h3 t3 g3 r3=>ct ρ2 δ2 h3 t3 _ (g1.trans (g2.trans g3)) r3 rfl
theorem az {op:Cop} (e1:Ev c e d loc T a T1) (h2:Ev c e2 d loc T1 b T2) (hb:Cm c op a b T2 t):Tr c (.cmp op e e2) d loc T t T2:=by
 intro _ env A s ρ δ Q E gX0 at' ct
 refine zEEEAAA gX0 fun l' r' p gR0 ml mr hm=>?_
 clear gX0
 subst gR0
 refine tE hm (e1 _ env A s ρ δ _ E ml at' fun ρ1 δ1 h1 t1 va g1 hr1 vr1=>?_)
 refine h2 _ env A (Sh s h1 t1) ρ1 δ1 _ E mr (at'.go g1 hr1) fun ρ2 δ2 h2 t2 vb g2 hr2 vr2=>?_
 exact hb d A (Sh s h2 t2) ρ2 δ2 va vb _ E hr2 at'.ro (g2.vr vr1) vr2 fun h3 t3 g3 r3=>dB (ct ρ2 δ2 h3 t3 (g1.trans (g2.trans g3)) r3)
theorem fU (e1:Tr c e d loc T t T1):Tr c (.not e) d loc T (!t) T1:=by
 intro _ env A s ρ δ Q E gX0 at' ct
 refine zEEA gX0 fun e' p gR0 me=>?_
 clear gX0
 subst gR0
 show wpAny _ _ (isTrue e' env (eval e' env) >>= fun t=>pure !t) _ _ _
 exact WB (e1 _ env A s ρ δ _ E me at' fun ρ1 δ1 h1 t1 g1 hr1=>WQ (ct ρ1 δ1 h1 t1 g1 hr1))
theorem sj {i:Int} (e1:Ev c e d loc T (.int i) T1):Ev c (.neg e) d loc T (.int (-i)) T1:=by
 intro _ env A s ρ δ Q E gX0 at' ct
 refine zEEA gX0 fun e' p gR0 me=>?_
 clear gX0
 subst gR0
 refine wpAny_UnaryOp (e1 _ env A s ρ δ _ E me at' fun ρ1 δ1 h1 t1 va g1 hr1 vr1=>?_)
 refine zE vr1 fun t gR0=>?_
 subst gR0
 exact P.neg_int (ct ρ1 δ1 h1 _ _ g1 hr1 ⟨_,rfl⟩)
theorem bQ (h:Ts c true l d loc T t T1):Tr c (.and l) d loc T t T1:=by
 intro _ env A s ρ δ Q E gX0 at' ct
 refine zEEA gX0 fun l' p gR0 ms=>?_
 clear gX0
 subst gR0
 exact h _ env A s ρ δ Q E ms at' ct
theorem gz (h:Ts c false l d loc T t T1):Tr c (.or l) d loc T t T1:=by
 intro _ env A s ρ δ Q E gX0 at' ct
 refine zEEA gX0 fun l' p gR0 ms=>?_
 clear gX0
 subst gR0
 exact h _ env A s ρ δ Q E ms at' ct
theorem cB:Ts c w .nil d loc T w T:=by
 rintro _ env A s ρ δ Q E rfl at' ct
 refine WQ ?_
 have:=ct ρ δ s.heap s.toks Go.refl at'.hr
 cases w <;> exact this
theorem bn (e1:Tr c e d loc T w T1) (h2:Ts c w l d loc T1 t T2):Ts c w (.cons e l) d loc T t T2:=by
 intro _ env A s ρ δ Q E gX0 at' ct
 refine zEEAAA gX0 fun x xs gR0 me ms ns=>?_
 clear gX0
 subst gR0
 show wpAny _ _ (isTrue x env (eval x env) >>= fun t=>match (if w then BoolOp.And else .Or),t with | .And,false=>pure false | .Or,true=>pure true | _,_=>allTrue (if w then .And else .Or) xs env) _ _ _
 refine WB (e1 _ env A s ρ δ _ E me at' fun ρ1 δ1 h1 t1 g1 hr1=>?_)
 have key:=h2 _ env A (Sh s h1 t1) ρ1 δ1 Q E ms (at'.go g1 hr1) fun ρ2 δ2 h2 t2 g2 hr2=>ct ρ2 δ2 h2 t2 (g1.trans g2) hr2
 cases w <;> exact key
theorem aZ (e1:Tr c e d loc T (!w) T1):Ts c w (.cons e l) d loc T (!w) T1:=by
 intro _ env A s ρ δ Q E gX0 at' ct
 refine zEEAAA gX0 fun x xs gR0 me ms ns=>?_
 clear gX0
 subst gR0
 show wpAny _ _ (isTrue x env (eval x env) >>= fun t=>match (if w then BoolOp.And else .Or),t with | .And,false=>pure false | .Or,true=>pure true | _,_=>allTrue (if w then .And else .Or) xs env) _ _ _
 refine WB (e1 _ env A s ρ δ _ E me at' fun ρ1 δ1 h1 t1 g1 hr1=>?_)
 have key:=ct ρ1 δ1 h1 t1 g1 hr1
 cases w <;> exact WQ key
theorem xy (h:Bo c true l d loc T v T1):Ev c (.and l) d loc T v T1:=by
 intro _ env A s ρ δ Q E gX0 at' ct
 refine zEEA gX0 fun l' p gR0 ms=>?_
 clear gX0
 subst gR0
 exact h _ env A s ρ δ Q E p ms at' ct
theorem yu (h:Bo c false l d loc T v T1):Ev c (.or l) d loc T v T1:=by
 intro _ env A s ρ δ Q E gX0 at' ct
 refine zEEA gX0 fun l' p gR0 ms=>?_
 clear gX0
 subst gR0
 exact h _ env A s ρ δ Q E p ms at' ct
theorem uk (e1:Ev c e d loc T v T1):Bo c w (.cons e .nil) d loc T v T1:=by
 intro _ env A s ρ δ Q E pos gX0 at' ct
 refine zEEAAA gX0 fun x xs gR0 me gR1 ns=>?_
 clear gX0
 subst gR0
 subst gR1
 have:=e1 _ env A s ρ δ Q E me at' ct
 cases w <;> exact this
theorem xU (e1:Ev c e d loc T (.bool w) T1) (h2:Bo c w (.cons e2 l) d loc T1 v T2):Bo c w (.cons e (.cons e2 l)) d loc T v T2:=by
 intro _ env A s ρ δ Q E pos gX0 at' ct
 refine gp fun gP gH=>?_
 refine zEEAAA gX0 fun x xs gR0 me gN1 ns=>?_
 clear gX0
 subst gR0
 obtain ⟨y,ys,rfl,my,ms,ns2⟩:=gN1
 apply gH;clear gH
 show wpAny _ _ (eval x env >>= fun v=>standAt pos >>= fun _=>holding [v] (truthy v) >>= fun t=>match (if w then BoolOp.And else .Or),t with | .And,false | .Or,true=>pure v | _,_=>boolOp pos (if w then .And else .Or) (evalEach (y :: ys) env)) _ _ _
 refine WB (e1 _ env A s ρ δ _ E me at' fun ρ1 δ1 h1 t1 va g1 hr1 vr1=>WB (wpAny_standAt (WB (WH ?_))))
 rw [vr1]
 refine dB ?_
 have key:=h2 _ env A (Sh s h1 t1) ρ1 δ1 Q E pos ⟨y,ys,rfl,my,ms,ns2⟩ (at'.go g1 hr1) (Kv.go ct g1)
 cases w <;> exact key
theorem tu (e1:Ev c e d loc T (.bool (!w)) T1):Bo c w (.cons e (.cons e2 l)) d loc T (.bool (!w)) T1:=by
 intro _ env A s ρ δ Q E pos gX0 at' ct
 refine gp fun gP gH=>?_
 refine zEEAAA gX0 fun x xs gR0 me gN1 ns=>?_
 clear gX0
 subst gR0
 obtain ⟨y,ys,rfl,my,ms,ns2⟩:=gN1
 apply gH;clear gH
 show wpAny _ _ (eval x env >>= fun v=>standAt pos >>= fun _=>holding [v] (truthy v) >>= fun t=>match (if w then BoolOp.And else .Or),t with | .And,false | .Or,true=>pure v | _,_=>boolOp pos (if w then .And else .Or) (evalEach (y :: ys) env)) _ _ _
 refine WB (e1 _ env A s ρ δ _ E me at' fun ρ1 δ1 h1 t1 va g1 hr1 vr1=>WB (wpAny_standAt (WB (WH ?_))))
 rw [vr1]
 refine dB ?_
 have key:=ct ρ1 δ1 h1 t1 (.bool (!w)) g1 hr1 rfl
 cases w <;> exact WQ key
noncomputable def nQ:PE→Bool
 | .loc _=>true | .attr ..=>true | .call ..=>true | .meth ..=>true | .glb _=>true | .sub ..=>true
 | _=>false
theorem qo {kd:Kd} {x:PySem.Expr} (h:nQ e=true) (me:ME e kd x) (env:Env) (whole:Sem Value):isTrue x env whole=(whole >>= fun v=>standAt x.pos >>= fun _=>holding [v] (truthy v)):=by
 cases e <;> first
  | exact Bool.noConfusion h
  | (obtain ⟨_,rfl,_⟩:=me; rfl)
  | (obtain ⟨_,_,rfl,_⟩:=me; rfl)
  | (obtain ⟨_,_,_,rfl,_⟩:=me; rfl)
  | (obtain ⟨_,_,_,_,rfl,_⟩:=me; rfl)
theorem bj (h:nQ e=true) (e1:Ev c e d loc T (.bool t) T1):Tr c e d loc T t T1:=by
 intro x env A s ρ δ Q E me at' ct
 rw [qo h me]
 refine WB (e1 _ env A s ρ δ _ E me at' fun ρ1 δ1 h1 t1 va g1 hr1 vr1=>WB (wpAny_standAt (WH ?_)))
 rw [vr1]
 exact dB (ct ρ1 δ1 h1 t1 g1 hr1)
end
section
variable {prog:Program} {w:World} {A:Around} {E:Value→Shared→Prop} {s:Shared}
theorem kq {it t:Addr} {items:Array Value} (hne:t≠it):∀ (n i:Nat) (s:Shared) (Q:List Value→Shared→Prop),s.heap.IsListIter it t i→s.heap.IsList t items→i+n≤items.size →
  (∀ h',h'.IsListIter it t (i+n)→Heap.SameBut it s.heap h'→Q ((items.toList.drop i).take n) { s with heap:=h' })→wpAny (model prog w) A (draw (.ref it) n) Q E s
 | 0,i,s,Q,hit,_,_,hQ=>by
  show wpAny _ _ (pure []) Q E s
  exact WQ (by simpa using hQ s.heap hit (Heap.SameBut.refl ..))
 | n+1,i,s,Q,hit,ht,hle,hQ=>by
  have hlt:i<items.size:=by omega
  show wpAny _ _ (pyNext (.ref it) >>= _) Q E s
  refine WB (wpAny_pyNext_list_item hit ht (x:=items[i]) (by simp [hlt]) fun h₁ hit₁ hs₁=>?_)
  refine WB (WH (kq hne n (i+1) _ _ hit₁ (ht.extBut hs₁.extBut hne) (by omega) fun h₂ hit₂ hs₂=>WQ ?_))
  have hd:items.toList.drop i=items[i] :: items.toList.drop (i+1):=by simp [List.drop_eq_getElem_cons,hlt]
  have:=hQ h₂ (by rw [show i+(n+1)=i+1+n by omega]; exact hit₂) (hs₁.trans hs₂)
  rw [hd,List.take_succ_cons] at this
  exact this
theorem hK {h:Heap} {t:Addr} {items:Array Value} (ht:h.IsList t items) (o:Obj):(h.push o).IsList t items:=by
 refine zEA ht fun x h1 h2=>?_
 exact ⟨x,Heap.get?_push_of_some _ h1,h2⟩
theorem gF {t:Addr} {items:Array Value} {Q:List Value→Shared→Prop} (hh:A.handled=none) (ht:s.heap.IsList t items)
  (hQ:∀ h',Heap.ExtBut s.heap.objs.size s.heap h'→Q items.toList { s with heap:=h' }):wpAny (model prog w) A (unpackItems (.ref t) items.size none) Q E s:=by
 have hlt:t≠s.heap.objs.size:=by obtain ⟨o,ho,_⟩:=ht; exact Nat.ne_of_lt (Heap.lt_size ho)
 unfold unpackItems
 refine WB ?_
 ·unfold notIterableAtAll
  refine WB (wpAny_specialOf ht.typeIs slot_list_iter.lookup ?_)
  refine WQ ?_
  simp only [Bool.false_eq_true,if_false]
  refine WB (WH (wpAny_pyIter_list ht ?_))
  refine WB (WH (kq hlt items.size 0 _ _ ⟨_,Heap.get?_push_size _ rfl,rfl,rfl⟩ (hK ht _) (by omega) fun h₁ hit₁ hs₁=>?_))
  have hall:List.take items.size (List.drop 0 items.toList)=items.toList:=by
   rw [List.drop_zero]; exact List.take_of_length_le (by simp)
  rw [hall]
  rw [if_neg (by simp)]
  have ht₁:h₁.IsList t items:=(hK ht _).extBut hs₁.extBut hlt
  refine WB (WH (wpAny_pyNext_list_end hh hit₁ ht₁ (by simp) fun h₂ he₂=>?_))
  simp only [Option.isSome_none,Bool.false_eq_true,if_false]
  refine WQ (hQ h₂ fun b o hb e=>he₂ b o hb (hs₁.extBut b o hb (Heap.get?_push_of_some _ e)))
end
section
variable {c:Cx} {loc:Loc} {T:Hp} {d n:Nat} {env:Env} {A:Around} {s:Shared} {ρ δ:Nat→Addr} {E:Value→Shared→Prop}
theorem jJ {r:Nat} {vs:List AV} {Q:List Value→Shared→Prop} (hr:HR c ρ δ T n s.heap) (ro:fY d A) (ho:T.get r=some (.tuple vs)∨T.get r=some (.list vs))
  (nx:∀ h' vals,(∀ b o,s.heap.get? b=some o→h'.get? b=some o)→VRs n ρ vs vals→Q vals { s with heap:=h' }):wpAny (model c.prog c.w) A (unpackItems (.ref (ρ r)) vs.length none) Q E s:=by
 rcases ho with ho | ho
 ·obtain ⟨vals,k,h1,h2⟩:=(hr.obj r _ ho).2
  have ht:s.heap.IsTuple (ρ r) vals.toArray:=⟨_,h1,rfl,k,rfl⟩
  rw [show vs.length=vals.toArray.size by rw [List.size_toArray,h2.len]]
  exact wpAny_unpackItems_tuple ro.2.2 ht fun h' he=>by
   have:=nx h' vals (fun b o e=>he b o (Nat.ne_of_lt (Heap.lt_size e)) e) h2
   simpa using this
 ·obtain ⟨vals,k,h1,h2⟩:=(hr.obj r _ ho).2
  have ht:s.heap.IsList (ρ r) vals.toArray:=⟨_,h1,rfl,k,rfl⟩
  rw [show vs.length=vals.toArray.size by rw [List.size_toArray,h2.len]]
  exact gF ro.2.2 ht fun h' he=>by
   have:=nx h' vals (fun b o e=>he b o (Nat.ne_of_lt (Heap.lt_size e)) e) h2
   simpa using this
noncomputable def xf (env:Env) (x:Nat) (f:Value→Sem Unit):Prop:=∀ v,(∃ p,f v=(standAt p >>= fun _=>bindName env (nmS x) v))∨f v=bindName env (nmS x) v
noncomputable def gh (env:Env):List Nat→List (Value→Sem Unit)→Prop
 | [],[]=>True
 | x :: xs,f :: fs=>xf env x f∧gh env xs fs
 | _,_=>False
noncomputable def dp:List Nat→List AV→Loc→Option Loc
 | [],[],l=>some l
 | x :: xs,v :: vs,l=>dp xs vs (pt l x v)
 | _,_,_=>none
theorem kh {X:Addr→Prop} {Q:Unit→Shared→Prop} (xs:List Nat):∀ (vs:List AV) (vals:List Value) (loc loc':Loc) (s:Shared) (fs:List (Value→Sem Unit)),dp xs vs loc=some loc'→(∀ x∈xs,eH? (env.kindOf (nmS x))=true)→FR c ρ δ n loc env s.heap→HR c ρ δ T n s.heap→VRs n ρ vs vals →
  (∀ h' t',Go c X ρ δ n s.heap ρ δ n h'→HR c ρ δ T n h'→FR c ρ δ n loc' env h'→Q () (Sh s h' t'))→gh env xs fs→(∀ x∈xs,StX env X x)→wpAny (model c.prog c.w) A (assignInOrder fs vals) Q E s:=by
 induction xs with
 | nil=>
  intro vs vals loc loc' s fs e hm fr hr vr nx hf hX
  cases fs with
  | cons=>exact hf.elim
  | nil=>
   cases vs with
   | cons=>cases e
   | nil=>
    cases e
    exact WQ (nx s.heap s.toks Go.refl hr fr)
 | cons x xs ih=>
  intro vs vals loc loc' s fs e hm fr hr vr nx hf hX
  cases fs with
  | nil=>exact hf.elim
  | cons f fs=>
   cases vs with
   | nil=>cases e
   | cons v vs=>
    cases vals with
    | nil=>exact vr.elim
    | cons val vals=>
     show wpAny _ _ (holding vals (f val) >>= fun _=>assignInOrder fs vals) _ _ _
     refine WB (WH ?_)
     have key:wpAny (model c.prog c.w) A (bindName env (nmS x) val) (fun _ s'=>wpAny (model c.prog c.w) A (assignInOrder fs vals) Q E s') E s:=by
      refine wpAny_bindName (fK (X:=X) fr hr vr.1 (hm x (.head _)) (fun h' t' g r f'=>?_) (hX x (.head _)))
      exact ih vs vals _ loc' (Sh s h' t') fs e (fun y hy=>hm y (.tail _ hy)) f' r vr.2 (fun h'' t'' g'=>nx h'' t'' (g.trans g')) hf.2 (fun y hy=>hX y (.tail _ hy))
     rcases hf.1 val with ⟨p,q⟩ | q
     ·rw [q]; exact WB (wpAny_standAt key)
     ·rw [q]; exact key
theorem ju {xs:List Nat} {vs:List AV} {l l':Loc} (e:dp xs vs l=some l'):xs.length=vs.length:=by
 induction xs generalizing vs l with
 | nil=>cases vs with
  | nil=>rfl
  | cons=>cases e
 | cons x xs ih=>cases vs with
  | nil=>cases e
  | cons v vs=>exact congrArg (·+1) (ih e)
theorem MNs.each {xs:List Nat} {l:List PySem.Expr} (h:MNs env.kindOf xs l):(∀ x∈xs,eH? (env.kindOf (nmS x))=true)∧(assignEach l env).length=xs.length∧(assignEach l env).findIdx? (·.1)=none∧gh env xs ((assignEach l env).map (·.2)):=by
 induction xs generalizing l with
 | nil=>cases h; exact ⟨fun _ h=>(nomatch h),rfl,rfl,trivial⟩
 | cons x xs ih=>
  refine zEEAA h fun np l gR0 h1 h2=>?_
  subst gR0
  refine zAAA (ih h2) fun a b c' d'=>?_
  have e1:assignEach (.Name (nmS x) np :: l) env=(false,assign (.Name (nmS x) np) env) :: assignEach l env:=rfl
  rw [e1]
  refine ⟨fun y hy=>?_,congrArg (·+1) b,?_,⟨fun v=>.inl ⟨np,rfl⟩,d'⟩⟩
  ·rcases List.mem_cons.mp hy with rfl | hy
   ·exact h1
   ·exact a y hy
  ·rw [List.findIdx?_cons,c']; rfl
noncomputable def bY (T:Hp) (xs:List Nat) (v:AV) (loc loc':Loc):Prop:=
 (∃ x,xs=[x]∧loc'=pt loc x v)∨(2≤xs.length∧∃ r vs,v=.ref r∧(T.get r=some (.tuple vs)∨T.get r=some (.list vs))∧dp xs vs loc=some loc')
theorem aX {x:Nat} {v:AV}:bY T [x] v loc (pt loc x v):=.inl ⟨x,rfl,rfl⟩
theorem ki {X:Addr→Prop} {xs:List Nat} {l:List PySem.Expr} {k r:Nat} {p:Pos} {vs:List AV} {loc':Loc} {Q:Unit→Shared→Prop} (hm:MNs env.kindOf xs l) (ho:T.get r=some (.tuple vs)∨T.get r=some (.list vs)) (hs:dp xs vs loc=some loc') (fr:FR c ρ δ n loc env s.heap) (hr:HR c ρ δ T n s.heap) (ro:fY d A)
  (nx:∀ h' t',Go c X ρ δ n s.heap ρ δ n h'→HR c ρ δ T n h'→FR c ρ δ n loc' env h'→Q () (Sh s h' t')) (hX:∀ x∈xs,StX env X x):wpAny (model c.prog c.w) A (assign (.Tuple l k p) env (.ref (ρ r))) Q E s:=by
 refine zAAA hm.each fun m1 m2 m3 m4=>?_
 rw [arm_assign_Tuple]
 refine WB (wpAny_standAt ?_)
 unfold unpack
 rw [m2,m3]
 show wpAny (model c.prog c.w) A (holding [.ref (ρ r)] (unpackItems (.ref (ρ r)) xs.length none) >>= fun items=>assignInOrder ((assignEach l env).map (·.2)) items) Q E s
 rw [ju hs]
 refine WB (WH (jJ hr ro ho fun h' vals k vr'=>?_))
 exact kh xs vs vals loc loc' { s with heap:=h' } _ hs m1 (fr.go (Go.of_keeps (X:=No) k)) (hr.of_keeps k) vr' (fun h'' t'' g r f=>nx h'' t'' ((Go.of_keeps k).trans g) r f) m4 hX
theorem jP {X:Addr→Prop} {xs:List Nat} {tg:PySem.Expr} {v:AV} {val:Value} {loc':Loc} {Q:Unit→Shared→Prop} (hb:bY T xs v loc loc') (mt:MT env.kindOf xs tg) (fr:FR c ρ δ n loc env s.heap) (hr:HR c ρ δ T n s.heap) (ro:fY d A) (vr:VR n ρ v val)
  (nx:∀ h' t',Go c X ρ δ n s.heap ρ δ n h'→HR c ρ δ T n h'→FR c ρ δ n loc' env h'→Q () (Sh s h' t')) (hX:∀ x∈xs,StX env X x):wpAny (model c.prog c.w) A (assign tg env val) Q E s:=by
 rcases mt with ⟨x,np,rfl,rfl,hk⟩ | ⟨l,k,p,h2,rfl,hm⟩
 ·rcases hb with ⟨y,q,rfl⟩ | ⟨q,_⟩
  ·cases q
   exact WB (wpAny_standAt (wpAny_bindName (fK fr hr vr hk nx (hX _ (.head _)))))
  ·exact absurd q (by simp)
 ·rcases hb with ⟨y,q,rfl⟩ | ⟨_,r,vs,rfl,ho,hs⟩
  ·rw [q] at h2; exact absurd h2 (by simp)
  ·rw [vr.2]
   exact ki hm ho hs fr hr ro nx hX
theorem qu {xs:List Nat} {tg:PySem.Expr} {v:AV} {val:Value} {loc':Loc} {Q:Unit→Shared→Prop} (hb:bY T xs v loc loc') (mt:MT env.kindOf xs tg) (fr:FR c ρ δ n loc env s.heap) (hr:HR c ρ δ T n s.heap) (ro:fY d A) (vr:VR n ρ v val)
  (nx:∀ h' t',Go c (Own env) ρ δ n s.heap ρ δ n h'→HR c ρ δ T n h'→FR c ρ δ n loc' env h'→Q () (Sh s h' t')):wpAny (model c.prog c.w) A (assign tg env val) Q E s:=jP hb mt fr hr ro vr nx fun _ _=>iz
end
theorem cn {α:Type} {c:Prop} [Decidable c] {x:Option α} {y:α} (h:(if c then none else x)=some y):¬ c∧x=some y:=by
 by_cases k:c
 ·rw [if_pos k] at h; cases h
 ·rw [if_neg k] at h; exact ⟨k,h⟩
theorem nS {env:Env} {ts vs:List PySem.Expr} {k a:Nat} {tp b:Pos} {names:List Str} (hk:env.scope.kind=.function) (h:j0 env.kindOf ts vs=some names):swappedStores [.Tuple ts k tp] (.Tuple vs a b) env=pure (some names):=by
 unfold j0 at h
 refine gp fun gP gH=>?_
 obtain ⟨c1,h⟩:=cn h
 obtain ⟨c2,h⟩:=cn h
 apply gH;clear gH
 dsimp only at h
 refine gp fun gP gH=>?_
 obtain ⟨c3,h⟩:=cn h
 obtain ⟨c4,h⟩:=cn h
 obtain ⟨c5,h⟩:=cn h
 apply gH;clear gH
 have bk:env.blockKind=.function:=by unfold Env.blockKind; rw [hk]; rfl
 have bk':(env.blockKind != .function)=false:=by rw [bk]; rfl
 cases h
 unfold swappedStores
 dsimp only
 rw [bk',Bool.or_false]
 refine (if_neg c1).trans ?_
 refine (if_neg c2).trans ?_
 refine (if_neg c3).trans ?_
 refine (if_neg c4).trans ?_
 exact if_neg c5
theorem nh {kd:Kd} {ts vs:List PySem.Expr} {names:List Str} (h:j0 kd ts vs=some names):∀ x∈names,kd x=some .local:=by
 unfold j0 at h
 have h:=(cn (cn h).2).2
 dsimp only at h
 have h:=(cn (cn (cn h).2).2).2
 cases h
 intro x hx
 refine zEA (List.mem_filterMap.mp hx) fun e he q=>?_
 split at q
 ·split at q
  ·rename_i z
   cases q
   exact eq_of_beq (Bool.and_eq_true_iff.mp z).1
  ·cases q
 ·cases q
theorem VRs.append {n:Nat} {ρ:Nat→Addr} {a b:List AV} {v w:List Value} (h:VRs n ρ a v) (h2:VRs n ρ b w):VRs n ρ (a ++ b) (v ++ w):=by
 induction a generalizing v with
 | nil=>cases v with
  | nil=>exact h2
  | cons=>exact h.elim
 | cons x a ih=>cases v with
  | nil=>exact h.elim
  | cons y v=>exact ⟨h.1,ih h.2⟩
theorem mU {n:Nat} {ρ:Nat→Addr} {a:List AV} {v:List Value} (h:VRs n ρ a v):VRs n ρ a.reverse v.reverse:=by
 induction a generalizing v with
 | nil=>cases v with
  | nil=>trivial
  | cons=>exact h.elim
 | cons x a ih=>cases v with
  | nil=>exact h.elim
  | cons y v=>
   rw [List.reverse_cons,List.reverse_cons]
   exact (ih h.2).append ⟨h.1,trivial⟩
theorem mR {env:Env} (xs:List Nat):gh env xs ((xs.map nmS).map fun n=>bindName env n):=by
 induction xs with
 | nil=>trivial
 | cons x xs ih=>exact ⟨fun v=>.inr rfl,ih⟩
section
variable {c:Cx} {d:Nat} {loc loc':Loc} {T T1:Hp} {e:PE} {vs:List AV} {xs:List Nat} {r:Nat}
theorem wW (e1:Ev c e d loc T (.ref r) T1) (ho:T1.get r=some (.tuple vs)∨T1.get r=some (.list vs)) (hs:dp xs vs loc=some loc'):St c (.asgT xs e) d loc T (.nxt loc') T1:=by
 intro _ env A s ρ δ Q E gX0 a ct
 refine zEEEEEA gX0 fun l k tp e' p gR0 gC0=>?_
 refine zAAA gC0 fun me mn _ nt=>?_
 clear gX0
 subst gR0
 refine wpAny_Assign_stores (e1 _ env A s ρ δ _ E me a fun ρ1 δ1 h' t1 va g1 hr1 vr1=>?_) (by cases e' <;> rfl) (by cases e' <;> first | rfl | cases nt)
 show wpAny _ _ (assign (.Tuple l k tp) env va) _ _ _
 rw [vr1.2]
 exact ki (X:=Own env) (s:=Sh s h' t1) mn ho hs (a.fr.go g1) hr1 a.ro (fun h2 t2 g2 r2 f2=>ct ρ1 δ1 h2 t2 (g1.any.trans g2) r2 f2) fun _ _=>iz
theorem wJ (e1:Ev c e d loc T (.ref r) T1) (ho:T1.get r=some (.tuple vs)) (hs:dp xs.reverse vs.reverse loc=some loc'):St c (.asgW xs e) d loc T (.nxt loc') T1:=by
 intro _ env A s ρ δ Q E gX0 a ct
 refine zEEEEEE gX0 fun l k tp us a1 b1 gC0=>?_
 refine zEAA gC0 fun p gR0 me sw=>?_
 clear gX0
 subst gR0
 rw [arm_exec_Assign]
 refine WB (wpAny_standAt ?_)
 refine WB (wpAny_of_eq (a:=false) rfl ?_)
 show wpAny _ _ (eval (.Tuple us a1 b1) env >>= fun v=>swappedStores [.Tuple l k tp] (.Tuple us a1 b1) env >>= fun sw=>assignStores env v sw _) _ _ _
 refine WB (e1 _ env A s ρ δ _ E me a fun ρ1 δ1 h' t1 va g1 hr1 vr1=>?_)
 refine WB (wpAny_of_eq (nS a.fr.kind sw) ?_)
 rw [vr1.2]
 show wpAny _ _ (rule "assign.swapped-stores" >>= fun _=>unpackItems (.ref (ρ1 r)) (xs.map nmS).length none >>= fun items=>assignInOrder ((xs.map nmS).reverse.map fun n=>bindName env n) items.reverse >>= fun _=>pure Flow.next) _ _ _
 have len:(xs.map nmS).length=vs.length:=by
  have:=ju hs
  rw [List.length_reverse,List.length_reverse] at this
  rw [LQ,this]
 rw [len]
 have eH:∀ x∈xs,eH? (env.kindOf (nmS x))=true:=by
  intro x hx
  have q:=nh sw (nmS x) (List.mem_map_of_mem hx)
  rw [q]; rfl
 refine WB (wpAny_rule (WB (jJ (s:=Sh s h' t1) hr1 a.ro (.inl ho) fun h2 vals k2 vr2=>WB ?_)))
 refine kh (X:=Own env) (s:={ Sh s h' t1 with heap:=h2 }) xs.reverse vs.reverse vals.reverse loc loc' _ hs (fun x hx=>eH x (List.mem_reverse.mp hx)) ((a.fr.go g1).go (Go.of_keeps (X:=No) k2)) (hr1.of_keeps k2) (mU vr2) (fun h3 t3 g3 r3 f3=>WQ (ct ρ1 δ1 h3 t3 (g1.any.trans ((Go.of_keeps k2).trans g3)) r3 f3)) ?_ (fun _ _=>iz)
 rw [← List.map_reverse]
 exact mR xs.reverse
end
theorem gC {e:PySem.Expr} {env:Env} (h:cP e=true) (x:Value):foldedSetIterable e env x=pure x:=by cases e <;> first | rfl | cases h
inductive IK where | list | tuple | dict (len ep:Nat) | range (lo:Int) (len:Nat) | set (len ep:Nat) (sl:List Nat)
noncomputable def cw (h:Heap) (I a:Addr):IK→Nat→Prop
 | .list,i=>h.IsListIter I a i
 | .tuple,i=>h.IsTupleIter I a i
 | .dict len ep,i=>h.IsKeyIter I a i len ep
 | .range lo len,i=>IsRangeIter h I (lo+(i:Int)) ((len:Int) - (i:Int)) 1
 | .set len ep sl,i=>h.get? I=some (j9 a sl len ep i)∧i≤len
theorem VRs.at {n:Nat} {ρ:Nat→Addr} {a:List AV} {v:List Value} (h:VRs n ρ a v) {i:Nat} {x:AV} (e:a[i]?=some x):∃ y,v[i]?=some y∧VR n ρ x y:=by
 induction a generalizing v i with
 | nil=>simp at e
 | cons z a ih=>cases v with
  | nil=>exact h.elim
  | cons y v=>cases i with
   | zero=>cases e; exact ⟨y,rfl,h.1⟩
   | succ i=>exact ih h.2 e
theorem KR.len {K:Type} {is:AV→K→Prop} {n:Nat} {ρ:Nat→Addr} {a:List (AV × AV)} {v:List (K × Value)} (h:KR n ρ is a v):a.length=v.length:=by
 induction a generalizing v with
 | nil=>cases v with
  | nil=>rfl
  | cons=>exact h.elim
 | cons x a ih=>cases v with
  | nil=>exact h.elim
  | cons y v=>exact congrArg (·+1) (ih h.2.2)
theorem KR.at {K:Type} {is:AV→K→Prop} {n:Nat} {ρ:Nat→Addr} {a:List (AV × AV)} {v:List (K × Value)} (h:KR n ρ is a v) {i:Nat} {x:AV} (e:(a.map (·.1))[i]?=some x):∃ k y,v[i]?=some (k,y)∧is x k:=by
 induction a generalizing v i with
 | nil=>simp at e
 | cons z a ih=>cases v with
  | nil=>exact h.elim
  | cons y v=>cases i with
   | zero=>cases e; exact ⟨y.1,y.2,rfl,h.1⟩
   | succ i=>exact ih h.2.2 e
theorem rF {x:AV} {k:Str} (h:isS x k) {key:Value} (q:Value.isStrOf k key=true) (n:Nat) (ρ:Nat→Addr):VR n ρ x key:=by
 cases x <;> first | exact h.elim | skip
 refine zE (Value.isStrOf_shape q) fun t gR0=>?_
 subst gR0
 cases h; exact ⟨t,rfl⟩
theorem sW {x:AV} {k:Int} (h:isI x k) {key:Value} (q:Value.isInt k key=true) (n:Nat) (ρ:Nat→Addr):VR n ρ x key:=by
 cases x <;> first | exact h.elim | skip
 refine zE (Value.isInt_shape q) fun t gR0=>?_
 subst gR0
 cases h; exact ⟨t,rfl⟩
noncomputable def cV (T:Hp) (src i:Nat) (x:Option AV):IK→Prop
 | .list=>∃ xs,T.get src=some (.list xs)∧xs[i]?=x
 | .tuple=>∃ xs,T.get src=some (.tuple xs)∧xs[i]?=x
 | .dict len ep=>∃ es,T.get src=some (.dict es ep)∧es.length=len∧(es.map (·.1))[i]?=x
 | .range lo len=>(i<len∧x=some (.int (lo+i)))∨(len≤i∧x=none)
 | .set len ep sl=>∃ xs,T.get src=some (.set xs (some (ep,sl)))∧xs.length=len∧(xs.map fun k:Nat=>AV.int (k:Int))[i]?=x
noncomputable def ed (T:Hp) (src:Nat):IK→Prop
 | .list=>∃ xs,T.get src=some (.list xs)
 | .tuple=>∃ xs,T.get src=some (.tuple xs)
 | .dict len ep=>∃ es,T.get src=some (.dict es ep)∧es.length=len
 | .range lo len=>∃ hi,T.get src=some (.range lo hi)∧-1000000<lo∧lo<1000000∧-1000000<hi∧hi<1000000∧len=(hi - lo).toNat
 | .set len ep sl=>∃ xs,T.get src=some (.set xs (some (ep,sl)))∧xs.length=len
theorem SEl.at {xs:List Nat} {l:List (Int × Value)} (h:SEl xs l) {i:Nat} {x:AV} (e:(xs.map fun k:Nat=>AV.int (k:Int))[i]?=some x):i<xs.length∧∃ y,l[i]?=some y∧∀ n ρ,VR n ρ x y.2:=by
 induction xs generalizing l i with
 | nil=>simp at e
 | cons k xs ih=>
  refine gp fun gP gH=>?_
  obtain ⟨t,r,rfl,h⟩:=h
  apply gH;clear gH
  cases i with
  | zero=>cases e; exact ⟨Nat.succ_pos _,_,rfl,fun n ρ=>⟨t,rfl⟩⟩
  | succ i=>obtain ⟨h1,h2⟩:=ih h e; exact ⟨Nat.succ_lt_succ h1,h2⟩
theorem mH {α:Type} (f:Nat→Nat):∀ (n k:Nat) (l:List α) (out:Array α),n=l.length→(pickOrder.go f n k l out).size=out.size+l.length
 | 0,k,l,out,h=>by
  cases l with
  | nil=>rfl
  | cons=>cases h
 | n+1,k,l,out,h=>by
  cases l with
  | nil=>cases h
  | cons x l=>
   have lt:f k % (x :: l).length<(x :: l).length:=Nat.mod_lt _ (Nat.succ_pos _)
   unfold pickOrder.go
   rw [List.getElem?_eq_getElem lt]
   show (pickOrder.go f n (k+1) ((x :: l).eraseIdx (f k % (x :: l).length)) (out.push _)).size=_
   have e:((x :: l).eraseIdx (f k % (x :: l).length)).length=l.length:=by rw [List.length_eraseIdx_of_lt lt]; rfl
   rw [mH f n _ _ _ (by rw [e]; exact Nat.succ.inj h),Array.size_push,e]
   show out.size+1+l.length=out.size+(l.length+1)
   omega
theorem jh {w:World} {a:Addr} {ep:Nat} {es:List (Int × Value)}:(e7 w a ep es).length=es.length:=by
 unfold e7
 cases bT w with
 | false=>rfl
 | true=>
  show (pickOrder _ es.toArray).toList.length=_
  unfold pickOrder
  rw [Array.length_toList,mH _ _ _ _ _ (by simp)]
  simp
theorem iL {α:Type}:∀ (l:List α) (i:Nat) (h:i<l.length),(l[i] :: l.eraseIdx i).Perm l
 | [],i,h=>absurd h (Nat.not_lt_zero i)
 | x :: l,0,_=>.refl _
 | x :: l,i+1,h=>(List.Perm.swap x _ _).trans ((iL l i (Nat.lt_of_succ_lt_succ h)).cons x)
theorem jH {α:Type} (f:Nat→Nat):∀ (n k:Nat) (l:List α) (out:Array α),n=l.length→(pickOrder.go f n k l out).toList.Perm (out.toList ++ l)
 | 0,k,l,out,h=>by
  cases l with
  | nil=>rw [List.append_nil]; exact .refl _
  | cons=>cases h
 | n+1,k,l,out,h=>by
  cases l with
  | nil=>cases h
  | cons x l=>
   have lt:f k % (x :: l).length<(x :: l).length:=Nat.mod_lt _ (Nat.succ_pos _)
   unfold pickOrder.go
   rw [List.getElem?_eq_getElem lt]
   show (pickOrder.go f n (k+1) ((x :: l).eraseIdx (f k % (x :: l).length)) (out.push _)).toList.Perm _
   have e:((x :: l).eraseIdx (f k % (x :: l).length)).length=l.length:=by rw [List.length_eraseIdx_of_lt lt]; rfl
   refine (jH f n _ _ _ (by rw [e]; exact Nat.succ.inj h)).trans ?_
   rw [Array.toList_push,List.append_assoc]
   exact List.Perm.append_left _ (iL _ _ lt)
theorem qh {w:World} {a:Addr} {ep:Nat} {es:List (Int × Value)}:(e7 w a ep es).Perm es:=by
 unfold e7
 cases bT w with
 | false=>exact .refl _
 | true=>
  show (pickOrder _ es.toArray).toList.Perm _
  unfold pickOrder
  have:=jH (w.params.setOrder a ep) es.toArray.size 0 es.toArray.toList #[] (by simp)
  simpa using this
theorem SEl.perm {l l':List (Int × Value)} (p:l'.Perm l):∀ {xs:List Nat},SEl xs l→∃ ys,ys.Perm xs∧SEl ys l':=by
 induction p with
 | nil=>intro xs h; exact ⟨xs,.refl _,h⟩
 | cons x p ih=>
  intro xs h
  cases xs with
  | nil=>cases h
  | cons k xs=>
   refine gp fun gP gH=>?_
   obtain ⟨t,r,e,h⟩:=h
   apply gH;clear gH
   cases e
   refine zEA (ih h) fun ys p' h'=>?_
   exact ⟨k :: ys,p'.cons _,t,_,rfl,h'⟩
 | swap x y l=>
  intro xs h
  cases xs with
  | nil=>cases h
  | cons k xs=>
   refine gp fun gP gH=>?_
   obtain ⟨t,r,e,h⟩:=h
   apply gH;clear gH
   cases xs with
   | nil=>cases h; cases e
   | cons j xs=>
    refine gp fun gP gH=>?_
    obtain ⟨t',r',e',h⟩:=h
    apply gH;clear gH
    cases e; cases e'
    exact ⟨j :: k :: xs,.swap _ _ _,t',_,rfl,t,_,rfl,h⟩
 | trans p q ih1 ih2=>
  intro xs h
  refine zEA (ih2 h) fun ys p1 h1=>?_
  refine zEA (ih1 h1) fun zs p2 h2=>?_
  exact ⟨zs,p2.trans p1,h2⟩
section
variable {c:Cx} {T:Hp} {n d:Nat} {A:Around} {s:Shared} {ρ δ:Nat→Addr} {E:Value→Shared→Prop} {I:Addr} {src i:Nat} {ik:IK}
theorem jY {x:AV} {Q:Option Value→Shared→Prop} (e:cV T src i (some x) ik) (hr:HR c ρ δ T n s.heap) (it:cw s.heap I (ρ src) ik i)
  (nx:∀ h' t' val,VR n ρ x val→Heap.SameBut I s.heap h'→cw h' I (ρ src) ik (i+1)→Q (some val) (Sh s h' t')):wpAny (model c.prog c.w) A (pyNext (.ref I)) Q E s:=by
 cases ik with
 | list=>
  refine gp fun gP gH=>?_
  obtain ⟨xs,ho,e⟩:=e
  refine zEEA ((hr.obj _ _ ho).2) fun vals k h1 h2=>?_
  refine zEA (h2.at e) fun y q1 q2=>?_
  apply gH;clear gH
  exact wpAny_pyNext_list_item it ⟨_,h1,rfl,k,rfl⟩ (by simpa using q1) fun h' z1 z2=>nx h' s.toks y q2 z2 z1
 | tuple=>
  refine gp fun gP gH=>?_
  obtain ⟨xs,ho,e⟩:=e
  refine zEEA ((hr.obj _ _ ho).2) fun vals k h1 h2=>?_
  refine zEA (h2.at e) fun y q1 q2=>?_
  apply gH;clear gH
  exact wpAny_pyNext_tuple_item it ⟨_,h1,rfl,k,rfl⟩ (by simpa using q1) fun h' z1 z2=>nx h' s.toks y q2 z2 z1
 | dict len ep=>
  refine gp fun gP gH=>?_
  obtain ⟨es,ho,q2,e⟩:=e
  apply gH;clear gH
  obtain ⟨_,⟨kvs,h1,h2⟩ | ⟨kvs,h1,h2⟩⟩:=(hr.obj _ _ ho).2
  ·obtain ⟨k,y,z1,z2⟩:=h2.at e
   rw [h2.len] at q2; subst q2
   exact wpAny_pyNext_dict_item it h1 z1 fun key h' z3 z4 z5=>nx h' s.toks key (rF z2 z3 _ _) z5 z4
  ·obtain ⟨k,y,z1,z2⟩:=h2.at e
   rw [h2.len] at q2; subst q2
   exact wpAny_pyNext_dict_item it h1 z1 fun key h' z3 z4 z5=>nx h' s.toks key (sW z2 z3 _ _) z5 z4
 | range lo len=>
  rcases e with ⟨q,e⟩ | ⟨_,e⟩
  ·cases e
   refine wpAny_pyNext_range_item it (by omega) fun h' z1 z2=>nx h' _ _ ⟨_,rfl⟩ z2 ?_
   show IsRangeIter h' I (lo+((i+1:Nat):Int)) ((len:Int) - ((i+1:Nat):Int)) 1
   rw [show lo+((i+1:Nat):Int)=lo+(i:Int)+1 by omega,show (len:Int) - ((i+1:Nat):Int)=(len:Int) - (i:Int) - 1 by omega]
   exact z1
  ·cases e
 | set len ep sl=>
  refine gp fun gP gH=>?_
  obtain ⟨xs,ho,e1,e⟩:=e
  obtain ⟨it,hi⟩:=it
  refine zEEEAAA ((hr.obj _ _ ho).2) fun g es ep' h1 h2 _ h3=>?_
  refine zA (h3 _ rfl) fun h3 h4=>?_
  apply gH;clear gH
  cases h3
  have lg:g.length=len:=by rw [← e1,← h2.2.len,← jh,h4.len]
  refine zAEA (h4.at e) fun lt y q1 q2=>?_
  subst lg
  rw [e1] at lt
  exact sD it h2 h1 q1 hi fun h' z1 z2=>nx h' s.toks y.2 (q2 _ _) z2 ⟨z1,lt⟩
theorem nk {Q:Option Value→Shared→Prop} (e:cV T src i none ik) (hr:HR c ρ δ T n s.heap) (it:cw s.heap I (ρ src) ik i) (hh:A.handled=none)
  (nx:∀ h',Heap.ExtBut I s.heap h'→Q none (Sh s h' s.toks)):wpAny (model c.prog c.w) A (pyNext (.ref I)) Q E s:=by
 cases ik with
 | list=>
  refine gp fun gP gH=>?_
  obtain ⟨xs,ho,e⟩:=e
  refine zEEA ((hr.obj _ _ ho).2) fun vals k h1 h2=>?_
  apply gH;clear gH
  exact wpAny_pyNext_list_end hh it ⟨_,h1,rfl,k,rfl⟩ (by have:=List.getElem?_eq_none_iff.mp e; rw [h2.len] at this; simpa using this) nx
 | tuple=>
  refine gp fun gP gH=>?_
  obtain ⟨xs,ho,e⟩:=e
  refine zEEA ((hr.obj _ _ ho).2) fun vals k h1 h2=>?_
  apply gH;clear gH
  exact wpAny_pyNext_tuple_end hh it ⟨_,h1,rfl,k,rfl⟩ (by have:=List.getElem?_eq_none_iff.mp e; rw [h2.len] at this; simpa using this) nx
 | dict len ep=>
  refine gp fun gP gH=>?_
  obtain ⟨es,ho,q2,e⟩:=e
  apply gH;clear gH
  have e:=List.getElem?_eq_none_iff.mp e
  rw [LQ] at e
  obtain ⟨_,⟨kvs,h1,h2⟩ | ⟨kvs,h1,h2⟩⟩:=(hr.obj _ _ ho).2
  ·rw [h2.len] at q2 e; subst q2
   exact wpAny_pyNext_dict_end hh it h1 (List.getElem?_eq_none_iff.mpr e) nx
  ·rw [h2.len] at q2 e; subst q2
   exact wpAny_pyNext_dict_end hh it h1 (List.getElem?_eq_none_iff.mpr e) nx
 | range lo len=>
  rcases e with ⟨_,e⟩ | ⟨q,_⟩
  ·cases e
  ·exact wpAny_pyNext_range_end hh it (by omega) nx
 | set len ep sl=>
  refine gp fun gP gH=>?_
  obtain ⟨xs,ho,e1,e⟩:=e
  obtain ⟨it,hi⟩:=it
  refine zEEEAAA ((hr.obj _ _ ho).2) fun g es ep' h1 h2 _ h3=>?_
  refine zA (h3 _ rfl) fun h3 h4=>?_
  apply gH;clear gH
  cases h3
  have lg:g.length=len:=by rw [← e1,← h2.2.len,← jh,h4.len]
  subst lg
  have e:=List.getElem?_eq_none_iff.mp e
  rw [LQ,← h4.len] at e
  exact tX hh it h2 h1 (List.getElem?_eq_none e) hi nx
theorem rs1 (lo hi:Int):Builtin.Range.rangeSize lo hi 1=(((hi - lo).toNat:Nat):Int):=by
 unfold Builtin.Range.rangeSize
 rw [if_pos (by decide)]
 split
 ·rename_i h; rw [Int.ediv_one,Int.sub_add_cancel,Int.toNat_of_nonneg (Int.le_of_lt (Int.sub_pos_of_lt h))]
 ·rename_i h; rw [Int.toNat_of_nonpos (Int.sub_nonpos_of_le (Int.not_lt.mp h))]; rfl
theorem wd {x:Int} (a:-3000000<x) (b:x<3000000):-2 ^ 63≤x∧x<2 ^ 63:=⟨Int.le_of_lt (Int.lt_trans (by decide) a),Int.lt_trans b (by decide)⟩
theorem rs2 {lo hi:Int} (q1:-1000000<lo) (q2:lo<1000000) (q3:-1000000<hi) (q4:hi<1000000):Builtin.Range.small lo hi 1=true:=by
 have b1:(((hi - lo).toNat:Nat):Int)≤2000000:=by rw [Int.ofNat_toNat]; exact Int.max_le.mpr ⟨Int.le_of_lt (Int.sub_lt_sub q4 q1),by decide⟩
 have w:=wd (Int.lt_trans (by decide) q3) (Int.lt_trans q4 (by decide))
 unfold Builtin.Range.small Builtin.Range.rangeFitsLong
 simp only [Bool.and_eq_true,Bool.or_eq_true,decide_eq_true_eq,beq_iff_eq]
 exact ⟨⟨⟨⟨wd (Int.lt_trans (by decide) q1) (Int.lt_trans q2 (by decide)),w⟩,wd (by decide) (by decide)⟩,wd (Int.lt_of_lt_of_le (by decide) (rs1 lo hi▸Int.natCast_nonneg _)) (Int.lt_of_le_of_lt (rs1 lo hi▸b1) (by decide))⟩,.inr (by rw [if_pos (by decide),Int.sub_self,Int.add_zero,decide_eq_true w.1,decide_eq_true w.2]; rfl)⟩
theorem mI {Q:Value→Shared→Prop} (e:ed T src ik) (hr:HR c ρ δ T n s.heap)
  (nx:∀ o,o.isFreed=false→cw (s.heap.push o) s.heap.objs.size (ρ src) ik 0→Q (.ref s.heap.objs.size) { s with heap:=s.heap.push o }):wpAny (model c.prog c.w) A (pyIter (.ref (ρ src))) Q E s:=by
 cases ik with
 | list=>
  refine zE e fun xs ho=>?_
  refine zEEA ((hr.obj _ _ ho).2) fun vals k h1 h2=>?_
  exact wpAny_pyIter_list ⟨_,h1,rfl,k,rfl⟩ (nx _ rfl ⟨_,Heap.get?_push_size _ rfl,rfl,rfl⟩)
 | tuple=>
  refine zE e fun xs ho=>?_
  refine zEEA ((hr.obj _ _ ho).2) fun vals k h1 h2=>?_
  exact wpAny_pyIter_tuple ⟨_,h1,rfl,k,rfl⟩ (nx _ rfl ⟨_,Heap.get?_push_size _ rfl,rfl,rfl⟩)
 | dict len ep=>
  refine zEA e fun es ho ql=>?_
  obtain ⟨hd,⟨kvs,h1,h2⟩ | ⟨kvs,h1,h2⟩⟩:=(hr.obj _ _ ho).2
  ·refine wpAny_pyIter_dict hd h1 (nx _ rfl ⟨_,Heap.get?_push_size _ rfl,rfl,?_⟩)
   rw [← ql,h2.len]; rfl
  ·refine wpAny_pyIter_dict hd h1 (nx _ rfl ⟨_,Heap.get?_push_size _ rfl,rfl,?_⟩)
   rw [← ql,h2.len]; rfl
 | range lo len=>
  refine zEAAAAA e fun hi ho q1 q2 q3 q4 ql=>?_
  refine zEEE ((hr.obj _ _ ho).2) fun t1 t2 t3 h1=>?_
  subst ql
  have sz:=rs1 lo hi
  refine wpAny_pyIter_range h1 (rs2 q1 q2 q3 q4) (nx _ rfl ?_)
  ·show IsRangeIter _ _ (lo+((0:Nat):Int)) ((((hi - lo).toNat:Nat):Int) - ((0:Nat):Int)) 1
   rw [show lo+((0:Nat):Int)=lo from Int.add_zero _,show (((hi - lo).toNat:Nat):Int) - ((0:Nat):Int)=(((hi - lo).toNat:Nat):Int) from Int.sub_zero _,← sz]
   exact Heap.get?_push_size _ rfl
 | set len ep sl=>
  refine zEA e fun xs ho e1=>?_
  refine zEEEAAA ((hr.obj _ _ ho).2) fun g es ep' h1 h2 _ h3=>?_
  refine zA (h3 _ rfl) fun h3 h4=>?_
  cases h3
  have lg:g.length=len:=by rw [← e1,← h2.2.len,← jh,h4.len]
  subst lg
  exact rJ h2 h1 (nx _ rfl ⟨Heap.get?_push_size _ rfl,Nat.zero_le _⟩)
end
section
variable {prog:Program} {w:World} {A:Around} {s:Shared}
theorem lZ {R:Result→Shared→Prop} {target:PySem.Expr} {it:Value} {body:List Stmt} {env:Env}
  (h:wpAny (model prog w) A (pyNext it) (fun r s₁=>match r with
   | none=>R (.ok .next) s₁
   | some v=>wpAny (model prog w) A (letOwnedTupleGo target it v) (fun _ s₁'=>
     wpAny (model prog w) A (assign target env v) (fun _ s₂=>wpAny (model prog w) A (execs body env) (fun f s₃=>match f with
      | .next | .cont=>codeAny (model prog w) A (.forLoop target it body [] env) R s₃
      | .brk=>R (.ok .next) s₃
      | .ret v=>R (.ok (.ret v)) s₃) (notedBy (model prog w) A env fun e s'=>R (.error e) s') s₂) (notedBy (model prog w) A env fun e s'=>R (.error e) s') s₁') (notedBy (model prog w) A env fun e s'=>R (.error e) s') s₁) (notedBy (model prog w) A env fun e s'=>R (.error e) s') s) :
  codeAny (model prog w) A (.forLoop target it body [] env) R s:=by
 refine codeAny_of_tree ?_
 show wpAny _ A ((forTurn target it body [] env).onRaise (fun x=>do noteFrame x env; theTreesLotGoes x)) _ _ s
 refine wpAny_noted ?_
 unfold forTurn
 refine WB (wpAny_standAt (WB (wpAny_onRaise (wpAny_mono h (fun r s₁ h₁=>?_) fun _ _ h'=>wpAny_standAt h'))))
 cases r with
 | none=>exact WQ ⟨rfl,codeAny_block (WQ h₁)⟩
 | some v=>
  refine WB (wpAny_mono h₁ (fun _ s₁' h₁'=>?_) fun _ _ h'=>h')
  refine WB (wpAny_mono h₁' (fun _ s₂ h₂=>WB (wpAny_mono h₂ (fun f s₃ h₃=>?_) fun _ _ h'=>h')) fun _ _ h'=>h')
  cases f with
  | next=>exact WQ ⟨rfl,h₃⟩
  | cont=>exact WQ ⟨rfl,h₃⟩
  | brk=>exact WQ h₃
  | ret v=>exact WQ h₃
theorem dP {E:Value→Shared→Prop} {tg:PySem.Expr} {I:Addr} {v:Value} {Q:Unit→Shared→Prop} {o:Obj} {T:String} {vs:Array Value} (ho:s.heap.get? I=some o) (hc:o.cls=.type T) (hd:o.data=.fields vs)
  (hT:["enumerate","zip","dict_itemiterator","dict_reverseitemiterator","odict_iterator","itertools.zip_longest","itertools.pairwise"].contains T=false) (h:Q () s):wpAny (model prog w) A (letOwnedTupleGo tg (.ref I) v) Q E s:=by
 have key:wpAny (model prog w) A (load I >>= fun o=>match o.cls,o.data with
   | .type n,.fields vs=>(match v with | .ref a=>if ["enumerate","zip","dict_itemiterator","dict_reverseitemiterator","odict_iterator","itertools.zip_longest","itertools.pairwise"].contains n && vs[0]? == some (rawInt a) then (do rule "for.unpacks-the-owned-tuple"; updateField I 0 .none) else pure () | _=>pure ())
   | _,_=>pure ()) Q E s:=by
  refine WB (wpAny_load ho ?_)
  rw [hc,hd]
  dsimp only
  cases v <;> first
   | exact WQ h
   | (dsimp only; rw [if_neg (by rw [hT]; exact Bool.false_ne_true)]; exact WQ h)
 unfold letOwnedTupleGo
 cases tg <;> first | exact WQ h | (cases v <;> first | exact WQ h | exact key)
end
theorem cw.own {prog:Program} {w:World} {A:Around} {s:Shared} {E:Value→Shared→Prop} {tg:PySem.Expr} {I a:Addr} {ik:IK} {i:Nat} {v:Value} {Q:Unit→Shared→Prop} (it:cw s.heap I a ik i) (h:Q () s):wpAny (model prog w) A (letOwnedTupleGo tg (.ref I) v) Q E s:=by
 cases ik with
 | list=>obtain ⟨o,h1,h2,h3⟩:=it; exact dP h1 h2 h3 (by decide) h
 | tuple=>obtain ⟨o,h1,h2,h3⟩:=it; exact dP h1 h2 h3 (by decide) h
 | dict=>obtain ⟨o,h1,h2,h3⟩:=it; exact dP h1 h2 h3 (by decide) h
 | range=>exact dP it rfl rfl (by decide) h
 | set=>exact dP it.1 rfl rfl (by decide) h
theorem cw.obj {h:Heap} {I a:Addr} {ik:IK} {i:Nat} (it:cw h I a ik i):∃ o,h.get? I=some o∧(∀ es k,o.data≠.dict es k)∧∀ h':Heap,h'.get? I=some o→cw h' I a ik i:=by
 cases ik with
 | list=>obtain ⟨o,h1,h2,h3⟩:=it; exact ⟨o,h1,(fun _ _ q=>by rw [h3] at q; cases q),fun _ e=>⟨o,e,h2,h3⟩⟩
 | tuple=>obtain ⟨o,h1,h2,h3⟩:=it; exact ⟨o,h1,(fun _ _ q=>by rw [h3] at q; cases q),fun _ e=>⟨o,e,h2,h3⟩⟩
 | dict=>obtain ⟨o,h1,h2,h3⟩:=it; exact ⟨o,h1,(fun _ _ q=>by rw [h3] at q; cases q),fun _ e=>⟨o,e,h2,h3⟩⟩
 | range=>exact ⟨_,it,(fun _ _ q=>by cases q),fun _ e=>e⟩
 | set=>exact ⟨_,it.1,(fun _ _ q=>by cases q),fun _ e=>⟨e,it.2⟩⟩
theorem cw.go {c:Cx} {X:Addr→Prop} {ρ δ ρ' δ':Nat→Addr} {n n':Nat} {h h':Heap} {I a:Addr} {ik:IK} {i:Nat} (it:cw h I a ik i) (g:Go c X ρ δ n h ρ' δ' n' h') (off:Off c ρ δ n I) (nx:¬ X I):cw h' I a ik i:=by
 refine zEAA it.obj fun o h1 nd k=>?_
 exact k h' (g.exact h1 off nx nd)
theorem cw.live {h:Heap} {I a:Addr} {ik:IK} {i:Nat} (it:cw h I a ik i):bl h I:=by
 refine zEA it.obj fun o h1 _=>?_
 exact ⟨o,h1⟩
theorem cw.nodict {h:Heap} {I a:Addr} {ik:IK} {i:Nat} (it:cw h I a ik i):¬ Dl h I:=by
 intro gX0
 refine zEEEA gX0 fun o' es k e r=>?_
 clear gX0
 refine zEAA it.obj fun o h1 nd _=>?_
 rw [h1] at e; cases e; exact nd es k r
theorem FR.of_ext {c:Cx} {ρ δ:Nat→Addr} {n:Nat} {h h':Heap} {loc:Loc} {env:Env} {a:Addr} (f:FR c ρ δ n loc env h) (k:Heap.ExtBut a h h') (ne:¬ Own env a):FR c ρ δ n loc env h':=by
 have kc:∀ {x b},env.cells.lookup x=some b→b≠a:=fun {x b} e z=>ne (.inr ⟨x,z▸e⟩)
 refine ⟨f.kind,f.glo,f.bui,f.offL,f.hbL,fun x b e=>?_,f.hbC,f.inj,?_,fun x v e q=>?_,fun x q=>?_⟩
 ·obtain ⟨z1,z2,o,z3⟩:=f.offC x b e
  exact ⟨z1,z2,o,k b o (kc e) z3⟩
 ·obtain ⟨m,⟨o,es,ep,ho,r⟩,hv⟩:=f.ns
  exact ⟨m,⟨o,es,ep,k _ o (fun z=>ne (.inl z.symm)) ho,r⟩,hv⟩
 ·obtain ⟨b,val,z1,⟨o,z2,z3⟩,z4⟩:=f.cel x v e q
  exact ⟨b,val,z1,⟨o,k b o (kc z1) z2,z3⟩,z4⟩
 ·obtain ⟨b,v,z1,⟨o,z2,z3⟩⟩:=f.celE x q
  exact ⟨b,v,z1,⟨o,k b o (kc z1) z2,z3⟩⟩
theorem Go.iter {c:Cx} {X:Addr→Prop} {ρ0 δ0 ρ δ:Nat→Addr} {n0 n:Nat} {h0 h h':Heap} {I:Addr} (g:Go c X ρ0 δ0 n0 h0 ρ δ n h) (k:Heap.ExtBut I h h') (d:h0.get? I=none):Go c X ρ0 δ0 n0 h0 ρ δ n h':=
 ⟨g.le,g.same,g.fresh,fun b o e x y=>let ⟨sl,q,r⟩:=g.keep b o e x y; ⟨sl,k b _ (aU ⟨o,e⟩ d) q,r⟩,fun b z=>let ⟨o,e⟩:=g.live b z; ⟨o,k b o (aU z d) e⟩,fun b z x=>let ⟨o,es,i,e,r⟩:=g.dct b z x; ⟨o,es,i,k b o (aU z.live d) e,r⟩⟩
noncomputable def Lo (c:Cx) (xs:List Nat) (src:Nat) (ik:IK) (i:Nat) (b:PSs) (d:Nat) (loc:Loc) (T:Hp) (f:Fl) (T':Hp):Prop:=
 ∀ (tg:PySem.Expr) (body:List Stmt) (env:Env) (A:Around) (s:Shared) (h1:Heap) (t1:Nat) (ρ0 δ0 ρ δ:Nat→Addr) (T0:Hp) (I:Addr) (R:Result→Shared→Prop),MT env.kindOf xs tg→MSs b env.kindOf body→At c d loc T env A (Sh s h1 t1) ρ δ →
  Off c ρ δ T.n I→c.hb.get? I=none→¬ Own env I→src<T.n→cw h1 I (ρ src) ik i→s.heap.get? I=none→Go c (Own env) ρ0 δ0 T0.n s.heap ρ δ T.n h1 →
  Kf c env s ρ0 δ0 T0 T' f (fun f s'=>R (.ok f) s')→codeAny (model c.prog c.w) A (.forLoop tg (.ref I) body [] env) R (Sh s h1 t1)
section
variable {c:Cx} {xs:List Nat} {src i d:Nat} {ik:IK} {b:PSs} {loc loc1 loc2:Loc} {T T1 T2:Hp} {f:Fl} {v x:AV} {it:PE}
theorem mT (e:cV T src i none ik):Lo c xs src ik i b d loc T (.nxt loc) T:=by
 intro tg body env A s h1 t1 ρ0 δ0 ρ δ T0 I R mt mb a off hbI nOwn hs it dead g ct
 refine lZ (nk (s:=Sh s h1 t1) e a.hr it a.ro.2.2 fun h2 eb=>?_)
 exact ct ρ δ h2 t1 (g.iter eb dead) (a.hr.of_ext eb off hbI) (a.fr.of_ext eb nOwn)
theorem pw {g:Fl} {tg:PySem.Expr} {body:List Stmt} {env:Env} {A:Around} {s:Shared} {h1:Heap} {t1:Nat} {ρ0 δ0 ρ δ:Nat→Addr} {n0:Nat} {I:Addr} {R:Result→Shared→Prop} (e:cV T src i (some x) ik) (eb:bY T xs x loc loc1) (eX:Ex c b d loc1 T g T1) (mt:MT env.kindOf xs tg) (mb:MSs b env.kindOf body) (a:At c d loc T env A (Sh s h1 t1) ρ δ)
  (off:Off c ρ δ T.n I) (hbI:c.hb.get? I=none) (nOwn:¬ Own env I) (it:cw h1 I (ρ src) ik i) (dead:s.heap.get? I=none) (gg:Go c (Own env) ρ0 δ0 n0 s.heap ρ δ T.n h1)
  (k:∀ h3 t3,(∃ e l,Fm c ρ δ T.n A h3 (e :: l)∧e.frame=env.frame)→cw h3 I (ρ src) ik (i+1)→Go c (Own env) ρ0 δ0 n0 s.heap ρ δ T.n h3→Kf c env (Sh s h3 t3) ρ δ T T1 g (fun f s₃=>match f with | .next | .cont=>codeAny (model c.prog c.w) A (.forLoop tg (.ref I) body [] env) R s₃ | .brk=>R (.ok .next) s₃ | .ret v=>R (.ok (.ret v)) s₃)) :
  codeAny (model c.prog c.w) A (.forLoop tg (.ref I) body [] env) R (Sh s h1 t1):=by
 refine lZ (jY (s:=Sh s h1 t1) e a.hr it fun h2 t2 val vr sb it2=>?_)
 have hr2:HR c ρ δ T T.n h2:=a.hr.of_ext sb.extBut off hbI
 have fr2:FR c ρ δ T.n loc env h2:=a.fr.of_ext sb.extBut nOwn
 refine cw.own (s:=Sh s h2 t2) it2 ?_
 refine qu (s:=Sh s h2 t2) eb mt fr2 hr2 a.ro vr fun h3 t3 g3 hr3 fr3=>?_
 have f3:∃ e l,Fm c ρ δ T.n A h3 (e :: l)∧e.frame=env.frame:=let ⟨e,l,f,q⟩:=a.fm; ⟨e,l,(f.ext sb.extBut it.nodict).go g3,q⟩
 exact eX body env A (Sh s h3 t3) ρ δ _ _ mb ⟨fr3,hr3,a.ro,f3⟩ (k h3 t3 f3 (it2.go g3 off nOwn) ((gg.iter sb.extBut dead).trans g3))
theorem gJ (e:cV T src i (some x) ik) (eb:bY T xs x loc loc1) (eX:Ex c b d loc1 T (.nxt loc2) T1) (e2:Lo c xs src ik (i+1) b d loc2 T1 f T2):Lo c xs src ik i b d loc T f T2:=by
 intro tg body env A s h1 t1 ρ0 δ0 ρ δ T0 I R mt mb a off hbI nOwn hs it dead g ct
 refine pw e eb eX mt mb a off hbI nOwn it dead g fun h3 t3 f3 it3 g3 ρ' δ' h4 t4 g4 hr4 fr4=>?_
 refine e2 tg body env A s h4 t4 ρ0 δ0 ρ' δ' T0 I R mt mb ⟨fr4,hr4,a.ro,let ⟨e,l,f,q⟩:=f3; ⟨e,l,f.go g4,q⟩⟩ (g4.off off it3.live) hbI nOwn (Nat.lt_of_lt_of_le hs g4.le) ?_ dead (g3.trans g4) ct
 rw [(g4.same src hs).1]
 exact it3.go g4 off nOwn
theorem xA (e:cV T src i (some x) ik) (eb:bY T xs x loc loc1) (eX:Ex c b d loc1 T (.ret v) T1):Lo c xs src ik i b d loc T (.ret v) T1:=by
 intro tg body env A s h1 t1 ρ0 δ0 ρ δ T0 I R mt mb a off hbI nOwn hs it dead g ct
 exact pw e eb eX mt mb a off hbI nOwn it dead g fun h3 t3 f3 it3 g3 ρ' δ' h4 t4 val g4 hr4 vr4=>ct ρ' δ' h4 t4 val (g3.trans g4) hr4 vr4
theorem vB {r:Nat} (e1:Ev c it d loc T (.ref r) T1) (hk:ed T1 r ik) (e2:Lo c xs r ik 0 b d loc T1 f T2):St c (.for1 xs it b) d loc T f T2:=by
 intro _ env A s ρ δ Q E gX0 a ct
 refine zEEEEAA gX0 fun tg it' body p gR0 mt gC0=>?_
 refine zAA gC0 fun me ns mb=>?_
 clear gX0
 subst gR0
 refine wpAny_For (e1 _ env A s ρ δ _ E me a fun ρ1 δ1 h' t1 va g1 hr1 vr1=>?_) (fun x=>gC ns x)
 rw [vr1.2]
 have fr1:=a.fr.go g1
 refine mI (s:=Sh s h' t1) hk hr1 fun ob hf ia=>?_
 have dead:h'.get? h'.objs.size=none:=bo _ (Nat.le_refl _)
 have kp:∀ b o,h'.get? b=some o→(h'.push ob).get? b=some o:=fun b o e=>Heap.get?_push_of_some _ e
 have nOwn:¬ Own env h'.objs.size:=by
  rintro (z | ⟨x,z⟩)
  ·obtain ⟨m,q,_⟩:=fr1.ns
   exact aU (da q) dead z.symm
  ·exact aU (fr1.offC x _ z).2.2 dead rfl
 exact e2 tg body env A (Sh s h' t1) (h'.push ob) t1 ρ1 δ1 ρ1 δ1 T1 h'.objs.size _ mt mb ⟨fr1.go (Go.of_keeps (X:=No) kp),hr1.of_keeps kp,a.ro,a.fgo (g1.trans (Go.of_keeps (X:=No) kp))⟩ (hr1.offNew (s:=Sh s h' t1) dead) (hr1.dead (s:=Sh s h' t1) dead) nOwn vr1.1 ia dead (Go.of_keeps kp) (Kf.go ct g1.any)
end
theorem szl {n:Nat} (h:n<4000):n≤sizeLine:=by unfold sizeLine; omega
noncomputable def keq:AV→AV→Bool
 | .str a,.str b=>decide (a=b)
 | .int a,.int b=>decide (a=b)
 | _,_=>false
noncomputable def dlk (k:AV):List (AV × AV)→Option AV
 | []=>none
 | e :: r=>if keq e.1 k=true then some e.2 else dlk k r
noncomputable def dpt (k v:AV):List (AV × AV)→List (AV × AV)
 | []=>[(k,v)]
 | e :: r=>if keq e.1 k=true then (e.1,v) :: r else e :: dpt k v r
noncomputable def ddl (k:AV):List (AV × AV)→List (AV × AV)
 | []=>[]
 | e :: r=>if keq e.1 k=true then r else e :: ddl k r
noncomputable def kOk:AV→List (AV × AV)→Bool
 | .str _,[]=>true
 | .int _,[]=>true
 | .str _,(.str _,_) :: _=>true
 | .int _,(.int _,_) :: _=>true
 | _,_=>false
noncomputable def epS (k:AV) (es:List (AV × AV)) (ep:Nat):Nat:=match dlk k es with | some _=>ep | none=>ep+1
structure KK {K:Type} (is:AV→K→Prop):Prop where
 eq:∀ {x k:AV} {a b:K},is x a→is k b→(keq x k=true↔a=b)
theorem kkS:KK isS:=⟨fun {x k a b} h1 h2=>by
 cases x <;> first | exact h1.elim | skip
 cases k <;> first | exact h2.elim | skip
 cases h1; cases h2
 show decide _=true↔_
 rw [decide_eq_true_eq]
 exact ⟨fun h=>by rw [h],fun h=>qG h⟩⟩
theorem kkI:KK isI:=⟨fun {x k a b} h1 h2=>by
 cases x <;> first | exact h1.elim | skip
 cases k <;> first | exact h2.elim | skip
 cases h1; cases h2
 show decide _=true↔_
 rw [decide_eq_true_eq]⟩
section
variable {K:Type} [DecidableEq K] {is:AV→K→Prop} (kk:KK is) {n:Nat} {ρ:Nat→Addr} {k v:AV} {b:K} {val:Value} (hk:is k b)
include kk hk
theorem KR.look {es:List (AV × AV)} {kvs:List (K × Value)} (h:KR n ρ is es kvs):(∀ y,dlk k es=some y→∃ u,valueAt kvs b=some u∧VR n ρ y u)∧(dlk k es=none→valueAt kvs b=none):=by
 induction es generalizing kvs with
 | nil=>cases kvs with
  | nil=>exact ⟨fun y h=>(by cases h),fun _=>rfl⟩
  | cons=>exact h.elim
 | cons x es ih=>cases kvs with
  | nil=>exact h.elim
  | cons y kvs=>
   refine zA (ih h.2.2) fun i1 i2=>?_
   have e:=kk.eq h.1 hk
   show (∀ z,(if keq x.1 k=true then some x.2 else dlk k es)=some z→_)∧((if keq x.1 k=true then some x.2 else dlk k es)=none→_)
   by_cases q:y.1=b
   ·rw [if_pos (e.mpr q)]
    refine ⟨fun w hw=>?_,fun hw=>by cases hw⟩
    cases hw
    exact ⟨y.2,by simp [valueAt,q],h.2.1⟩
   ·rw [if_neg fun z=>q (e.mp z)]
    have:valueAt (y :: kvs) b=valueAt kvs b:=by simp [valueAt,q]
    rw [this]
    exact ⟨i1,i2⟩
theorem KR.put (hv:VR n ρ v val) {es:List (AV × AV)} {kvs:List (K × Value)} (h:KR n ρ is es kvs) (nd:(kvs.map (·.1)).Nodup):KR n ρ is (dpt k v es) (stored kvs b val):=by
 induction es generalizing kvs with
 | nil=>cases kvs with
  | nil=>exact ⟨hk,hv,trivial⟩
  | cons=>exact h.elim
 | cons x es ih=>cases kvs with
  | nil=>exact h.elim
  | cons y kvs=>
   obtain ⟨a,u⟩:=y
   rw [List.map_cons,List.nodup_cons] at nd
   have e:=kk.eq h.1 hk
   show KR n ρ is (if keq x.1 k=true then (x.1,v) :: es else x :: dpt k v es) _
   by_cases q:a=b
   ·subst q
    rw [if_pos (e.mpr rfl)]
    have:stored ((a,u) :: kvs) a val=(a,val) :: kvs:=by
     unfold stored
     rw [if_pos (by simp),List.map_cons,if_pos rfl,map_store_of_not_mem kvs _ val nd.1]
    rw [this]
    exact ⟨h.1,hv,h.2.2⟩
   ·rw [if_neg fun z=>q (e.mp z)]
    have:stored ((a,u) :: kvs) b val=(a,u) :: stored kvs b val:=by
     unfold stored
     simp only [List.any_cons,decide_eq_false q,Bool.false_or,List.map_cons,if_neg q]
     split <;> rfl
    rw [this]
    exact ⟨h.1,h.2.1,ih h.2.2 nd.2⟩
theorem KR.del {es:List (AV × AV)} {kvs:List (K × Value)} (h:KR n ρ is es kvs) (nd:(kvs.map (·.1)).Nodup):KR n ρ is (ddl k es) (without kvs b):=by
 induction es generalizing kvs with
 | nil=>cases kvs with
  | nil=>trivial
  | cons=>exact h.elim
 | cons x es ih=>cases kvs with
  | nil=>exact h.elim
  | cons y kvs=>
   obtain ⟨a,u⟩:=y
   rw [List.map_cons,List.nodup_cons] at nd
   have e:=kk.eq h.1 hk
   show KR n ρ is (if keq x.1 k=true then es else x :: ddl k es) _
   by_cases q:a=b
   ·subst q
    rw [if_pos (e.mpr rfl)]
    have:without ((a,u) :: kvs) a=kvs:=by
     have:=without_of_not_mem kvs a nd.1
     unfold without at this ⊢
     rw [List.filter_cons,if_neg (by simp)]
     exact this
    rw [this]
    exact h.2.2
   ·rw [if_neg fun z=>q (e.mp z)]
    have:without ((a,u) :: kvs) b=(a,u) :: without kvs b:=by
     unfold without
     rw [List.filter_cons,if_pos (by simp [q])]
    rw [this]
    exact ⟨h.1,h.2.1,ih h.2.2 nd.2⟩
end
section
variable {prog:Program} {w:World} {A:Around} {E:Value→Shared→Prop} {s:Shared} {K:Type} [DecidableEq K] {knd:KeyKind prog w K}
theorem fM {d:Addr} {kvs:List (K × Value)} {ep:Nat} {k:K} {key v:Value} {Q:Unit→Shared→Prop} (hkey:knd.is k key=true) (hm:s.heap.DictAt knd d kvs ep) (hsz:kvs.length≤sizeLine)
  (hQ:∀ h',h'.DictAt knd d (stored kvs k v) (match valueAt kvs k with | some _=>ep | none=>ep+1)→Heap.SameBut d s.heap h'→Q () { s with heap:=h',toks:=s.toks+1 }) :
  wpAny (model prog w) A (dictSet d key v) Q E s:=by
 refine zEEAAAA hm fun o es ho hc hd hk gC0=>?_
 refine zA gC0 fun hp hn=>?_
 have hes:es.size≤sizeLine:=by
  have e1:=hp.length
  have e2:es.toList.length=es.size:=by simp
  omega
 have hva:(es.toList.find? fun e=>knd.is k e.key).map (·.val)=valueAt kvs k:=hp.find k
 unfold dictSet
 try with_reducible refine WH ?_
 refine WB (knd.pyHash hkey ?_)
 unfold dictSetHashed
 try with_reducible refine WH ?_
 refine WB (wpAny_dictFind_of (s:={ s with toks:=s.toks+1 }) hkey ho hd hk ?_)
 have hidx:(es.findIdx? fun e=>knd.is k e.key)=kvs.findIdx? fun kv=>decide (kv.1=k):=by
  rw [← hp.findIdx k]; obtain ⟨l⟩:=es; simp
 cases hi:es.findIdx? fun e=>knd.is k e.key with
 | some i=>
  have hl:(es.toList.findIdx? fun e=>knd.is k e.key)=some i:=by rw [← hi]; obtain ⟨l⟩:=es; simp
  have hv:∃ u,valueAt kvs k=some u:=by
   refine zEAA (hp.at hl) fun e _ _ q=>?_
   exact ⟨_,q⟩
  refine zE hv fun u hu=>?_
  rw [hu] at hQ
  refine WB (wpAny_rule (WB (wpAny_updateDict (s:={ s with toks:=s.toks+1 }) ho hd (wpAny_point (hQ _ ⟨_,_,Heap.get?_update_self _ ho (Obj.isFreed_of_dict (Obj.data_mapDict hd _)),
   hc.mapDict _,Obj.data_mapDict hd _,hk.modify _ _,?_,?_⟩ (Heap.SameBut.update ..))))))
  ·rw [stored,if_pos (any_of_findIdx_some (hidx▸hi))]
   have:=hp.modify hn hl v
   obtain ⟨l⟩:=es
   simpa using this
  ·rw [stored,if_pos (any_of_findIdx_some (hidx▸hi)),keys_map_store]; exact hn
 | none=>
  have hnot:k∉kvs.map (·.1):=not_mem_of_findIdx_none (hidx▸hi)
  have hany:¬ (kvs.any fun kv=>decide (kv.1=k))=true:=by
   rw [List.any_eq_true]; rintro ⟨kv,hkv,he⟩
   exact hnot (List.mem_map.mpr ⟨kv,hkv,of_decide_eq_true he⟩)
  have hv:valueAt kvs k=none:=by
   unfold valueAt
   rw [Option.map_eq_none_iff,List.find?_eq_none]
   intro kv hkv he
   exact hnot (List.mem_map.mpr ⟨kv,hkv,of_decide_eq_true he⟩)
  rw [hv] at hQ
  refine WB (wpAny_rule (wpAny_updateDictKeys (hz:=hes) (s:={ s with toks:=s.toks+1 }) ho hd (hQ _ ⟨_,_,Heap.get?_update_self _ ho (Obj.isFreed_of_dict (Obj.data_mapDictKeys hd _)),
   hc.mapDictKeys _,Obj.data_mapDictKeys hd _,hk.push hkey _,?_,?_⟩ (Heap.SameBut.update ..))))
  ·rw [stored,if_neg hany]
   have:=hp.append hkey (knd.hash k) v
   obtain ⟨l⟩:=es
   simpa using this
  ·rw [stored,if_neg hany,List.map_append,List.nodup_append]
   refine ⟨hn,by simp,?_⟩
   intro a ha b hb
   simp only [List.map_cons,List.map_nil,List.mem_singleton] at hb
   subst hb
   exact fun e=>hnot (e▸ha)
theorem nU {d:Addr} {kvs:List (K × Value)} {ep:Nat} {k:K} {key v:Value} {Q:Unit→Shared→Prop} (hkey:knd.is k key=true) (hm:s.heap.DictAt knd d kvs ep) (hsz:kvs.length≤sizeLine)
  (hQ:∀ h',h'.DictAt knd d (stored kvs k v) (match valueAt kvs k with | some _=>ep | none=>ep+1)→Heap.SameBut d s.heap h'→Q () { s with heap:=h',toks:=s.toks+1 }) :
  wpAny (model prog w) A (setItem (.ref d) key v) Q E s:=by
 have hT:=hm.dictOf.typeIs (s:=s)
 unfold setItem
 try with_reducible refine WH ?_
 refine WB (wpAny_sequenceKey hT (by decide) ?_)
 refine WB (wpAny_callSpecial?_slot (name:=Str.ofString "__setitem__") hT slot_dict_setitem
  (wpAny_call_entry slot_dict_setitem hT entry_dict_setitem ?_ (args_dict_setitem _ _ _)))
 show wpAny _ _ (Builtin.Dict.notOrdered "__setitem__" ⟨[.ref d,key,v],[]⟩ >>= _) _ _ s
 refine WB (wpAny_notOrdered_dict hT ?_)
 show wpAny _ _ (dictSet d key v >>= _) _ _ s
 exact WB (fM hkey hm hsz fun h' hm' hs'=>WQ ⟨.none,rfl,WQ (hQ h' hm' hs')⟩)
theorem DictAt.empty {K':Type} [DecidableEq K'] {knd':KeyKind prog w K'} {h:Heap} {a:Addr} {ep:Nat} (x:h.DictAt knd a [] ep):h.DictAt knd' a [] ep:=by
 refine zEEAAAA x fun o es ho hc hd hk gC0=>?_
 refine zA gC0 fun hp hn=>?_
 have:es.toList=[]:=by cases q:es.toList with
  | nil=>rfl
  | cons e l=>rw [q] at hp; cases hp
 have:es=#[]:=by cases es; simp at this; subst this; rfl
 subst this
 exact ⟨o,#[],ho,hc,hd,fun _ he=>by simp at he,Pairs.nil,List.nodup_nil⟩
end
section
variable {c:Cx} {ρ δ:Nat→Addr} {n:Nat} {h h':Heap} {T:Hp} {ao:AO}
theorem DR.key {P:Prop} {a:Addr} {es:List (AV × AV)} {ep:Nat} {k:AV} {key:Value} (x:DR c n ρ h a es ep) (ok:kOk k es=true) (vk:VR n ρ k key)
  (f:∀ {K:Type} [DecidableEq K] {knd:KeyKind c.prog c.w K} {is:AV→K→Prop} (kk:KK is) {kvs:List (K × Value)} {b:K},h.DictAt knd a kvs ep→KR n ρ is es kvs→is k b→knd.is b key=true →
   (∀ {es' kvs' h' ρ' n' ep'},Heap.DictAt knd h' a kvs' ep'→KR n' ρ' is es' kvs'→DR c n' ρ' h' a es' ep')→P):P:=by
 obtain ⟨x0,x⟩:=x
 cases k <;> first
  | exact Bool.noConfusion (show false=true from ok)
  | skip
 ·rename_i i
  refine zE vk fun t gR0=>?_
  subst gR0
  rcases x with ⟨kvs,h1,h2⟩ | ⟨kvs,h1,h2⟩
  ·have:es=[]:=by
    cases es with
    | nil=>rfl
    | cons e l=>
     obtain ⟨y,v⟩:=e
     cases kvs with
     | nil=>exact h2.elim
     | cons q r=>
      have:=h2.1
      cases y <;> first | exact this.elim | exact Bool.noConfusion (show false=true from ok)
   subst this
   cases kvs with
   | cons=>exact h2.elim
   | nil=>exact f (knd:=intKind c.prog c.w) kkI (b:=i) (DictAt.empty h1) (show KR n ρ isI [] [] from trivial) rfl (by simp [intKind,Value.isInt]) fun z1 z2=>⟨x0,.inr ⟨_,z1,z2⟩⟩
  ·exact f (knd:=intKind c.prog c.w) kkI (b:=i) h1 h2 rfl (by simp [intKind,Value.isInt]) fun z1 z2=>⟨x0,.inr ⟨_,z1,z2⟩⟩
 ·rename_i i
  refine zE vk fun t gR0=>?_
  subst gR0
  rcases x with ⟨kvs,h1,h2⟩ | ⟨kvs,h1,h2⟩
  ·exact f (knd:=strKind c.prog c.w) kkS (b:=S i) h1 h2 rfl (by simp [PySem.strKind,Value.isStrOf]) fun z1 z2=>⟨x0,.inl ⟨_,z1,z2⟩⟩
  ·have:es=[]:=by
    cases es with
    | nil=>rfl
    | cons e l=>
     obtain ⟨y,v⟩:=e
     cases kvs with
     | nil=>exact h2.elim
     | cons q r=>
      have:=h2.1
      cases y <;> first | exact this.elim | exact Bool.noConfusion (show false=true from ok)
   subst this
   cases kvs with
   | cons=>exact h2.elim
   | nil=>exact f (knd:=strKind c.prog c.w) kkS (b:=S i) (DictAt.empty h1) (show KR n ρ isS [] [] from trivial) rfl (by simp [PySem.strKind,Value.isStrOf]) fun z1 z2=>⟨x0,.inl ⟨_,z1,z2⟩⟩
theorem HR.turn1 {X:Addr→Prop} {r:Nat} (hr:HR c ρ δ T T.n h) (ro:1≤r) (lt:r<T.n) (sb:Heap.ExtBut (ρ r) h h') (lr:bl h' (ρ r)) (or:OR c T.n ρ h' (ρ r) (δ r) ao) :
  HR c ρ δ (aI T r ao) T.n h'∧Go c X ρ δ T.n h ρ δ T.n h':=by
 refine hr.turn ro lt (fun j=>ew T ao r j lt) (fun b o q _ z=>sb b o q z) lr ?_ or
 by_cases q:δ r=ρ r
 ·rw [q]; exact lr
 ·obtain ⟨o,z⟩:=(hr.liv r lt).2; exact ⟨o,sb _ o q z⟩
theorem DR.live {a:Addr} {es:List (AV × AV)} {ep:Nat} (x:DR c n ρ h a es ep):bl h a:=by
 obtain ⟨_,⟨_,⟨o,_,q,_⟩,_⟩ | ⟨_,⟨o,_,q,_⟩,_⟩⟩:=x <;> exact ⟨o,q⟩
theorem DR.set {A:Around} {s:Shared} {E:Value→Shared→Prop} {a:Addr} {es:List (AV × AV)} {ep:Nat} {k v:AV} {key val:Value} {Q:Unit→Shared→Prop} (x:DR c n ρ s.heap a es ep) (q1:kOk k es=true) (q2:es.length<4000) (vk:VR n ρ k key) (vv:VR n ρ v val)
  (nx:∀ h' t',DR c n ρ h' a (dpt k v es) (epS k es ep)→Heap.SameBut a s.heap h'→Q () (Sh s h' t')):wpAny (model c.prog c.w) A (setItem (.ref a) key val) Q E s∧wpAny (model c.prog c.w) A (dictSet a key val) Q E s:=by
 refine DR.key x q1 vk fun {K _ knd is} kk {kvs b} hd hk hb hkey back=>?_
 have fin:∀ h',h'.DictAt knd a (stored kvs b val) (match valueAt kvs b with | some _=>ep | none=>ep+1)→Heap.SameBut a s.heap h'→Q () { s with heap:=h',toks:=s.toks+1 }:=fun h' z1 z2=>by
  refine nx h' _ (back ?_ (KR.put kk hb vv hk hd.nodup)) z2
  have L:=KR.look kk hb hk
  unfold epS
  cases q:dlk k es with
  | none=>rw [L.2 q] at z1; exact z1
  | some y=>obtain ⟨u,z3,_⟩:=L.1 y q; rw [z3] at z1; exact z1
 rw [hk.len] at q2
 have q3:kvs.length≤sizeLine:=szl q2
 exact ⟨nU hkey hd q3 fin,fM hkey hd q3 fin⟩
end
section
variable {prog:Program} {w:World} {A:Around} {s:Shared} {env:Env} {Q E:Value→Shared→Prop}
theorem kH {value slice:PySem.Expr} {pos:Pos} (hs:∀ b o i,subscripted slice b o i=(match b with | true=>runValue (.builtin "lifetime.subscript" ⟨[o,i],[]⟩) | false=>operate [o,i] (getItem o i)))
  (h:wpAny (model prog w) A (eval value env) (fun o s₁=>wpAny (model prog w) A (eval slice env) (fun i s₂=>∃ T id,typeLookup (.type T) "__getitem__" = pure (some (.builtin id))∧s₂.TypeIs o T∧wpAny (model prog w) A (getItem o i) Q E s₂) E s₁) E s) :
  wpAny (model prog w) A (eval (.Subscript value slice pos) env) Q E s:=by
 rw [eval_Subscript]
 refine WB (wpAny_mono h (fun o s₁ h₁=>WB (WH (wpAny_mono h₁ (fun i s₂ h₂=>WB (wpAny_standAt ?_)) fun _ _ x=>x))) fun _ _ x=>x)
 refine zEEAA h₂ fun T id hl hT hg=>?_
 refine WB ?_
 rw [getitemInPython_of_ne hT.not_modules]
 refine WB (wpAny_specialOf hT hl ?_)
 have fin:wpAny (model prog w) A (subscripted slice false o i >>= fun r=>letTemporaryGo value o r >>= fun _=>pure r) Q E s₂:=by
  rw [hs]
  exact WB (wpAny_operating (wpAny_mono hg (fun r s₃ h₃=>WB (wpAny_letTemporaryGo (WQ h₃))) fun _ _ x=>x))
 first
  | exact WQ fin
  | exact fin
end
noncomputable def It (c:Cx) (o i:AV) (T:Hp) (v:AV):Prop:=
 ∀ (A:Around) (s:Shared) (ρ δ:Nat→Addr) (vo vi:Value) (Q E:Value→Shared→Prop),HR c ρ δ T T.n s.heap→VR T.n ρ o vo→VR T.n ρ i vi→(∀ val t',VR T.n ρ v val→Q val (Sh s s.heap t')) →
  ∃ Ty id,typeLookup (.type Ty) "__getitem__" = pure (some (.builtin id))∧s.TypeIs vo Ty∧wpAny (model c.prog c.w) A (getItem vo vi) Q E s
section
variable {c:Cx} {d:Nat} {loc:Loc} {T T1 T2 T3:Hp} {v a b k:AV} {e o i:PE} {r j ep:Nat} {xs:List AV} {es:List (AV × AV)}
theorem bR (ho:T.get r=some (.list xs)) (hj:xs[j]?=some v) (lt:j<1000000):It c (.ref r) (.int (j:Int)) T v:=by
 intro A s ρ δ vo vi Q E hr ro ri h
 refine zEEA ((hr.obj _ _ ho).2) fun vs kk h1 h2=>?_
 refine zE ri fun t gR0=>?_
 subst gR0
 refine zEA (h2.at hj) fun y q1 q2=>?_
 have hl:s.heap.IsList (ρ r) vs.toArray:=⟨_,h1,rfl,kk,rfl⟩
 rw [ro.2]
 exact ⟨"list",_,slot_list_getitem.lookup,hl.typeIs,wpAny_getItem_list hl (by omega) (by omega) (by rw [Int.toNat_natCast]; simpa using q1) (h y s.toks q2)⟩
theorem wB (ho:T.get r=some (.list xs)) (hj:xs.getLast?=some v):It c (.ref r) (.int (-1)) T v:=by
 intro A s ρ δ vo vi Q E hr ro ri h
 refine zEEA ((hr.obj _ _ ho).2) fun vs kk h1 h2=>?_
 refine zE ri fun t gR0=>?_
 subst gR0
 rw [List.getLast?_eq_getElem?] at hj
 have hp:xs.length - 1<xs.length:=(List.getElem?_eq_some_iff.mp hj).1
 refine zEA (h2.at hj) fun y q1 q2=>?_
 have hl:s.heap.IsList (ρ r) vs.toArray:=⟨_,h1,rfl,kk,rfl⟩
 have e:xs.length=vs.length:=h2.len
 rw [ro.2]
 refine ⟨"list",_,slot_list_getitem.lookup,hl.typeIs,wpAny_getItem_list_neg hl (by decide) (show -((vs.length:Nat):Int)≤-1 from Int.neg_le_neg (Int.ofNat_le.mpr (e▸Nat.lt_of_le_of_lt (Nat.zero_le _) hp))) (by decide) ?_ (h y s.toks q2)⟩
 rw [List.size_toArray,← e,show (-1+(xs.length:Int)).toNat=xs.length - 1 by rw [Int.add_comm]; exact Int.toNat_sub xs.length 1]
 simpa using q1
theorem cy (ho:T.get r=some (.tuple xs)) (hj:xs[j]?=some v) (lt:j<1000000):It c (.ref r) (.int (j:Int)) T v:=by
 intro A s ρ δ vo vi Q E hr ro ri h
 refine zEEA ((hr.obj _ _ ho).2) fun vs kk h1 h2=>?_
 refine zE ri fun t gR0=>?_
 subst gR0
 refine zEA (h2.at hj) fun y q1 q2=>?_
 have hl:j<vs.length:=by rw [← h2.len]; exact (List.getElem?_eq_some_iff.mp hj).1
 have ht:s.heap.IsTuple (ρ r) vs.toArray:=⟨_,h1,rfl,kk,rfl⟩
 rw [ro.2]
 refine ⟨"tuple",_,F.slot_tuple_getitem.lookup,ht.typeIs,PyProof.Rows.getItem_tuple (ht:PyProof.Rows.IsTup s.heap (ρ r) vs.toArray) (by omega) (by omega) (j:=j) ?_ (by simpa using q1) (h y s.toks q2)⟩
 unfold seqIndex?
 simp only [show ¬ ((j:Int)<0) by omega,if_false]
 rw [if_pos (by simp only [Bool.and_eq_true,decide_eq_true_eq,List.size_toArray]; omega)]
 simp
theorem cQ (ho:T.get r=some (.dict es ep)) (hk:kOk k es=true) (hl:dlk k es=some v):It c (.ref r) k T v:=by
 intro A s ρ δ vo vi Q E hr ro ri h
 rw [ro.2]
 refine DR.key (hr.obj _ _ ho).2 hk ri fun {K _ knd is} kk {kvs b} hd hk hb hkey back=>?_
 refine zEA ((KR.look kk hb hk).1 v hl) fun u q1 q2=>?_
 exact ⟨"dict",_,slot_dict_getitem.lookup,hd.dictOf.typeIs,wpAny_getItem_of hkey hd.dictOf.mapOf q1 (h u _ q2)⟩
theorem di (e1:Ev c o d loc T a T1) (e2:Ev c i d loc T1 b T2) (hi:It c a b T2 v):Ev c (.sub o i) d loc T v T2:=by
 intro _ env A s ρ δ Q E gX0 at' ct
 refine zEEEAAA gX0 fun o' i' p gR0 mo mi nsl=>?_
 clear gX0
 subst gR0
 refine kH (by intro b o i; cases i' <;> cases b <;> first | rfl | cases nsl) (e1 _ env A s ρ δ _ E mo at' fun ρ1 δ1 h1 t1 va g1 hr1 vr1=>?_)
 refine e2 _ env A (Sh s h1 t1) ρ1 δ1 _ E mi (at'.go g1 hr1) fun ρ2 δ2 h2 t2 vb g2 hr2 vr2=>?_
 exact hi A (Sh s h2 t2) ρ2 δ2 va vb Q E hr2 (g2.vr vr1) vr2 fun val t' vr=>ct ρ2 δ2 h2 t' val (g1.trans g2) hr2 vr
theorem wU (e1:Ev c e d loc T v T1) (e2:Ev c o d loc T1 (.ref r) T2) (e3:Ev c i d loc T2 k T3) (ho:T3.get r=some (.dict es ep)) (hk:kOk k es=true) (hl:es.length<4000) (hro:1≤r):St c (.asgS o i e) d loc T (.nxt loc) (aI T3 r (.dict (dpt k v es) (epS k es ep))):=by
 intro _ env A s ρ δ Q E gX0 a ct
 refine zEEEEEA gX0 fun o' i' sp e' p gR0 gC0=>?_
 refine zAAA gC0 fun mo mi me nc=>?_
 clear gX0
 subst gR0
 refine wpAny_Assign_Subscript (e1 _ env A s ρ δ _ E me a fun ρ1 δ1 h1 t1 va g1 hr1 vr1=>?_) (eo nc)
 have a1:=At.go (t':=t1) a g1 hr1
 refine e2 _ env A (Sh s h1 t1) ρ1 δ1 _ E mo a1 fun ρ2 δ2 h2 t2 vo g2 hr2 vr2=>?_
 have a2:=At.go (t':=t2) a1 g2 hr2
 refine e3 _ env A (Sh s h2 t2) ρ2 δ2 _ E mi a2 fun ρ3 δ3 h3 t3 vi g3 hr3 vr3=>?_
 refine zA (g3.vr (a:=.ref r) vr2) fun lt q=>?_
 rw [q]
 refine (DR.set (s:=Sh s h3 t3) (hr3.obj _ _ ho).2 hk hl vr3 (g3.vr (g2.vr vr1)) fun h4 t4 x' sb=>?_).1
 refine zA (hr3.turn1 (ao:=.dict (dpt k v es) (epS k es ep)) (X:=No) hro lt sb.extBut x'.live x') fun hr4 g4=>?_
 exact ct ρ3 δ3 h4 t4 (g1.trans (g2.trans (g3.trans g4))).any hr4 ((a2.fr.go g3).go g4)
end
noncomputable def fil:List (AV × AV)→List (AV × AV)→Nat→AO
 | [],es,ep=>.dict es ep
 | p :: r,es,ep=>fil r (dpt p.1 p.2 es) (epS p.1 es ep)
noncomputable def kf:List (AV × AV)→List (AV × AV)→Bool
 | [],_=>true
 | p :: r,es=>kOk p.1 es && Nat.blt es.length 4000 && kf r (dpt p.1 p.2 es)
noncomputable def PR (n:Nat) (ρ:Nat→Addr):List (AV × AV)→List (Value × Value)→Prop
 | [],[]=>True
 | p :: r,q :: l=>VR n ρ p.1 q.1∧VR n ρ p.2 q.2∧PR n ρ r l
 | _,_=>False
noncomputable def Pv (c:Cx) (l:PEs) (d:Nat) (loc:Loc) (T:Hp) (ps:List (AV × AV)) (T':Hp):Prop:=
 ∀ (ks:List (Option PySem.Expr)) (xs:List PySem.Expr) (env:Env) (A:Around) (s:Shared) (ρ δ:Nat→Addr) (Q:List (Value × Value)→Shared→Prop) (E:Value→Shared→Prop) (pos:Pos),MPs l env.kindOf ks xs→At c d loc T env A s ρ δ →
  (∀ ρ' δ' h' t' vals,Go c No ρ δ T.n s.heap ρ' δ' T'.n h'→HR c ρ' δ' T' T'.n h'→PR T'.n ρ' ps vals→Q vals (Sh s h' t'))→wpAny (model c.prog c.w) A (evalPairs (pairTrees ks xs env pos)) Q E s
theorem rz {c:Cx} {n:Nat} {ρ:Nat→Addr} {A:Around} {E:Value→Shared→Prop} {a:Addr} {Q:PUnit→Shared→Prop} (vs:List (AV × AV)):∀ {ps:List (Value × Value)} {s:Shared} {es:List (AV × AV)} {ep:Nat},kf vs es=true→PR n ρ vs ps→DR c n ρ s.heap a es ep →
  (∀ h' t' es' ep',fil vs es ep=.dict es' ep'→DR c n ρ h' a es' ep'→Heap.SameBut a s.heap h'→Q PUnit.unit (Sh s h' t'))→wpAny (model c.prog c.w) A (storeAll a ps) Q E s:=by
 induction vs with
 | nil=>
  intro ps s es ep e pr x nx
  cases ps with
  | cons=>exact pr.elim
  | nil=>exact WQ (nx s.heap s.toks es ep rfl x (Heap.SameBut.refl ..))
 | cons p r ih=>
  intro ps s es ep e pr x nx
  cases ps with
  | nil=>exact pr.elim
  | cons q l=>
   refine zA ((Bool.and_eq_true _ _).mp (show (kOk p.1 es && Nat.blt es.length 4000 && kf r (dpt p.1 p.2 es))=true from e)) fun e1 e2=>?_
   refine zA ((Bool.and_eq_true _ _).mp e1) fun e3 e4=>?_
   unfold storeAll
   rw [List.forIn_cons]
   refine WB (WB (DR.set x e3 (Nat.le_of_ble_eq_true e4) pr.1 pr.2.1 fun h' t' x' sb=>?_).2)
   exact WQ (ih (s:=Sh s h' t') e2 pr.2.2 x' fun h'' t'' es'' ep'' eo' x'' sb'=>nx h'' t'' es'' ep'' eo' x'' (sb.trans sb'))
section
variable {c:Cx} {d:Nat} {loc:Loc} {T T1 T2 T3:Hp} {a b k v:AV} {x y o i:PE} {l:PEs} {ps:List (AV × AV)} {r ep:Nat} {es:List (AV × AV)}
theorem xx:Pv c .nil d loc T [] T:=by
 rintro _ _ env A s ρ δ Q E pos ⟨rfl,rfl⟩ at' ct
 exact pairTrees_nil_walk (ct ρ δ s.heap s.toks [] Go.refl at'.hr trivial)
theorem wO (e1:Ev c x d loc T a T1) (e2:Ev c y d loc T1 b T2) (e3:Pv c l d loc T2 ps T3):Pv c (.cons x (.cons y l)) d loc T ((a,b) :: ps) T3:=by
 intro _ _ env A s ρ δ Q E pos gX0 at' ct
 refine zEEEEAA gX0 fun k' v' ks' vs' gR0 gR1 gC0=>?_
 refine zAA gC0 fun mk mv ms=>?_
 clear gX0
 subst gR0
 subst gR1
 refine pairTrees_cons_walk (e1 _ env A s ρ δ _ E mk at' fun ρ1 δ1 h1 t1 va g1 hr1 vr1=>?_)
 have a1:=At.go (t':=t1) at' g1 hr1
 refine e2 _ env A (Sh s h1 t1) ρ1 δ1 _ E mv a1 fun ρ2 δ2 h2 t2 vb g2 hr2 vr2=>?_
 refine e3 _ _ env A (Sh s h2 t2) ρ2 δ2 _ E pos ms (At.go (s:=Sh s h1 t1) (t':=t2) a1 g2 hr2) fun ρ3 δ3 h3 t3 vals g3 hr3 pr=>?_
 exact ct ρ3 δ3 h3 t3 ((va,vb) :: vals) (g1.trans (g2.trans g3)) hr3 ⟨g3.vr (g2.vr vr1),g3.vr vr2,pr⟩
theorem MPs.size {kd:Kd} (ps:List (AV × AV)):∀ {l:PEs} {ks:List (Option PySem.Expr)} {xs:List PySem.Expr},MPs l kd ks xs→eJ l=2 * ps.length→ks.all (·.isSome)=true∧ks.length=xs.length∧ks.length=ps.length:=by
 induction ps with
 | nil=>
  intro l ks xs h e
  cases l with
  | nil=>obtain ⟨rfl,rfl⟩:=h; exact ⟨rfl,rfl,rfl⟩
  | cons=>cases e
 | cons p ps ih=>
  intro l ks xs h e
  cases l with
  | nil=>cases e
  | cons a l=>cases l with
   | nil=>exact h.elim
   | cons b l=>
    refine zEEEEAA h fun k' v' ks' vs' gR0 gR1 gC0=>?_
    refine zAA gC0 fun _ _ m=>?_
    subst gR0
    subst gR1
    have:eJ l=2 * ps.length:=by
     have:eJ l+1+1=2 * (ps.length+1):=e
     exact Nat.succ.inj (Nat.succ.inj this)
    refine zAA (ih m this) fun q1 q2 q3=>?_
    exact ⟨by rw [List.all_cons,q1]; rfl,congrArg (·+1) q2,congrArg (·+1) q3⟩
variable (ok:Ok c)
include ok
theorem mS {ρ δ:Nat→Addr} {s:Shared} (hr:HR c ρ δ T T.n s.heap):DR c (T.n+1) (ext ρ T.n s.heap.objs.size) (s.heap.push { cls:=.type "dict",data:=.dict #[] }) s.heap.objs.size [] 0:=by
 refine ⟨beq_false_of_ne fun z=>?_,.inl ⟨[],⟨_,#[],Heap.get?_push_size _ rfl,⟨rfl,rfl,rfl⟩,rfl,fun _ he=>by simp at he,Pairs.nil,List.nodup_nil⟩,trivial⟩⟩
 refine zE ok.sysm fun ob q=>?_
 have:=hr.base _ _ q
 rw [← z,bo s.heap (Nat.le_refl _)] at this
 cases this
theorem kG:Ev c (.dict .nil) d loc T (.ref T.n) (aq T (.dict [] 0)):=by
 intro _ env A s ρ δ Q E gX0 at' ct
 refine zEEEAA gX0 fun _ _ p gR0 gN1 _=>?_
 clear gX0
 subst gR0
 obtain ⟨rfl,rfl⟩:=gN1
 exact wpAny_Dict_empty (Kv.push (ob:={ cls:=.type "dict",data:=.dict #[] }) (t:=s.toks) ct at'.hr rfl (mS ok at'.hr))
theorem v4 (e1:Pv c l d loc (aq T (.dict [] 0)) ps T1) (ho:T1.get T.n=some (.dict [] 0)) (z:Nat.ble 1 T.n=true) (len:eJ l=2 * ps.length) (ne:ps≠[]) (fo:kf ps []=true):Ev c (.dict l) d loc T (.ref T.n) (aI T1 T.n (fil ps [] 0)):=by
 intro _ env A s ρ δ Q E gX0 at' ct
 refine zEEEAA gX0 fun ks xs p gR0 mp le=>?_
 clear gX0
 subst gR0
 refine zAA (MPs.size ps mp len) fun z1 z2 z3=>?_
 refine zA (at'.hr.push (X:=No) (T':=aq T (.dict [] 0)) (o:={ cls:=.type "dict",data:=.dict #[] }) (ce T _) rfl (mS ok at'.hr)) fun hr1 g1=>?_
 refine wpAny_Dict_any z1 z2 (fun q=>ne (List.length_eq_zero_iff.mp (by rw [← z3,q]; rfl))) (by rw [len,← z3] at le; omega) ?_
 refine e1 ks xs env A (Sh s _ s.toks) _ _ _ E _ mp ⟨at'.fr.go g1,hr1,at'.ro,at'.fgo g1⟩ fun ρ2 δ2 h2 t2 vals g2 hr2 pr=>?_
 have lt:T.n<T1.n:=g2.le
 have ea:ρ2 T.n=s.heap.objs.size:=by rw [(g2.same T.n (Nat.lt_succ_self T.n)).1,bD]
 rw [← ea]
 refine rz ps (s:=Sh s h2 t2) fo pr (hr2.obj _ _ ho).2 fun h4 t4 es' ep' eo' x' sb=>?_
 refine zA (hr2.turn1 (ao:=.dict es' ep') (X:=No) (Nat.le_of_ble_eq_true z) lt sb.extBut x'.live x') fun hr4 g4=>?_
 rw [eo'] at ct
 exact ct ρ2 δ2 h4 t4 _ (Go.trans g1 (g2.trans g4)) hr4 ⟨lt,rfl⟩
omit ok
section
variable {prog:Program} {w:World} {A:Around} {E:Value→Shared→Prop} {s:Shared} {K:Type} [DecidableEq K] {knd:KeyKind prog w K}
theorem nJ {d:Addr} {kvs:List (K × Value)} {ep:Nat} {k:K} {key u:Value} {Q:Option DictEntry→Shared→Prop} (hkey:knd.is k key=true) (hm:s.heap.DictAt knd d kvs ep) (hsz:kvs.length≤sizeLine) (hv:valueAt kvs k=some u)
  (hQ:∀ e h',h'.DictAt knd d (without kvs k) (ep+1)→Heap.SameBut d s.heap h'→Q (some e) { s with heap:=h',toks:=s.toks+1 }) :
  wpAny (model prog w) A (Builtin.Dict.takeOut d key) Q E s:=by
 refine zEEAAAA hm fun o es ho hc hd hk gC0=>?_
 refine zA gC0 fun hp hn=>?_
 have hes:es.size≤sizeLine:=by rw [← Array.length_toList,hp.length]; exact hsz
 unfold Builtin.Dict.takeOut
 try with_reducible refine WH ?_
 refine WB (knd.pyHash hkey ?_)
 refine WB (wpAny_dictFind_of (s:={ s with toks:=s.toks+1 }) hkey ho hd hk ?_)
 cases hi:es.findIdx? fun e=>knd.is k e.key with
 | none=>
  exfalso
  have:(es.toList.find? fun e=>knd.is k e.key)=none:=by
   rw [List.find?_eq_none]
   intro e he
   have:=Array.findIdx?_eq_none_iff.mp hi e (Array.mem_toList_iff.mp he)
   simpa using this
  have z:=hp.find k
  rw [this,hv] at z
  cases z
 | some i=>
  have hl:(es.toList.findIdx? fun e=>knd.is k e.key)=some i:=by rw [← hi]; obtain ⟨l⟩:=es; simp
  refine zEAA (hp.at hl) fun e he hek hev=>?_
  refine WB (wpAny_dictEntries (s:={ s with toks:=s.toks+1 }) ho hd ?_)
  have he':es[i]?=some e:=by rw [← he]; obtain ⟨l⟩:=es; simp
  rw [he']
  refine WB (wpAny_updateDictKeys (hz:=hes) (s:={ s with toks:=s.toks+1 }) ho hd (WQ (hQ e _ ⟨_,_,Heap.get?_update_self _ ho (Obj.isFreed_of_dict (Obj.data_mapDictKeys hd _)),
   hc.mapDictKeys _,Obj.data_mapDictKeys hd _,hk.erase _,?_,nodup_without hn k⟩ (Heap.SameBut.update ..))))
  have:=hp.erase hn hl
  obtain ⟨l⟩:=es
  simpa using this
theorem oq {d:Addr} {kvs:List (K × Value)} {ep:Nat} {k:K} {key u:Value} {Q:Unit→Shared→Prop} (hkey:knd.is k key=true) (hm:s.heap.DictAt knd d kvs ep) (hsz:kvs.length≤sizeLine) (hv:valueAt kvs k=some u)
  (hQ:∀ h',h'.DictAt knd d (without kvs k) (ep+1)→Heap.SameBut d s.heap h'→Q () { s with heap:=h',toks:=s.toks+1 }) :
  wpAny (model prog w) A (delItem (.ref d) key) Q E s:=by
 have hT:=hm.dictOf.typeIs (s:=s)
 unfold delItem
 try with_reducible refine WH ?_
 refine WB (wpAny_sequenceKey hT (by decide) ?_)
 refine WB (wpAny_callSpecial?_slot (name:=Str.ofString "__delitem__") hT PySem.F.slot_dict_delitem
  (wpAny_call_entry PySem.F.slot_dict_delitem hT PySem.F.entry_dict_delitem ?_ (PySem.F.args_dict_delitem_2 _ _)))
 unfold Builtin.«dict.__delitem__»
 refine WB ?_
 unfold Builtin.Dict.dictSlotArgs
 refine WB (wpAny_notOrdered_dict hT ?_)
 show wpAny _ _ (pure (Value.ref d,key)) _ _ s
 refine WQ ?_
 show wpAny _ _ (Builtin.Dict.takeOut d key >>= _) _ _ s
 exact WB (nJ hkey hm hsz hv fun e h' hm' hs'=>WB (wpAny_letGo (WQ ⟨.none,rfl,WQ (hQ h' hm' hs')⟩)))
end
theorem wX (e2:Ev c o d loc T (.ref r) T1) (e3:Ev c i d loc T1 k T2) (ho:T2.get r=some (.dict es ep)) (hk:kOk k es=true) (hl:es.length<4000) (hv:dlk k es=some v) (hro:1≤r):St c (.delS o i) d loc T (.nxt loc) (aI T2 r (.dict (ddl k es) (ep+1))):=by
 intro _ env A s ρ δ Q E gX0 a ct
 refine zEEEEAA gX0 fun o' i' sp p gR0 mo mi=>?_
 clear gX0
 subst gR0
 refine wpAny_Delete (wpAny_deleteEach_cons (PyProof.Rows.delete_Subscript (e2 _ env A s ρ δ _ E mo a fun ρ2 δ2 h2 t2 vo g2 hr2 vr2=>?_)))
 have a2:=At.go (t':=t2) a g2 hr2
 refine e3 _ env A (Sh s h2 t2) ρ2 δ2 _ E mi a2 fun ρ3 δ3 h3 t3 vi g3 hr3 vr3=>?_
 refine zA (g3.vr (a:=.ref r) vr2) fun lt q=>?_
 rw [q]
 refine DR.key (hr3.obj _ _ ho).2 hk vr3 fun {K _ knd is} kk {kvs b} hd hk hb hkey back=>?_
 refine zEA ((KR.look kk hb hk).1 v hv) fun u hu _=>?_
 rw [hk.len] at hl
 refine oq (s:=Sh s h3 t3) hkey hd (szl hl) hu fun h4 hd4 sb=>wpAny_deleteEach_nil ?_
 have x':=back hd4 (KR.del kk hb hk hd.nodup)
 refine zA (hr3.turn1 (ao:=.dict (ddl k es) (ep+1)) (X:=No) hro lt sb.extBut x'.live x') fun hr4 g4=>?_
 exact ct ρ3 δ3 h4 _ (g2.trans (g3.trans g4)).any hr4 ((a2.fr.go g3).go g4)
end
noncomputable def cU (cells:List (Str × Addr)) (c:List (Str × Addr)) (p:Str × NameKind):List (Str × Addr):=if p.2 == .free then (p.1,(cells.lookup p.1).getD 0) :: c else c
theorem iI {scope:Scope} {env:Env} (h:∀ p∈scope.names,p.2=.free→∃ a,env.cells.lookup p.1=some a):closureFor scope env=pure (scope.names.foldl (cU env.cells) []):=by
 have fold:∀ {f:Str × NameKind→List (Str × Addr)→Sem (ForInStep (List (Str × Addr)))} (l:List (Str × NameKind)),(∀ x∈l,∀ b,f x b=pure (.yield (cU env.cells b x)))→∀ b,forIn l b f=pure (l.foldl (cU env.cells) b):=by
  intro f l
  induction l with
  | nil=>exact fun _ b=>rfl
  | cons x l ih=>
   intro h b
   rw [List.forIn_cons,h x (.head _) b]
   exact ih (fun y hy=>h y (.tail _ hy)) _
 simp only [closureFor]
 rw [fold scope.names (fun x hx b=>by
  obtain ⟨n,k⟩:=x
  unfold cU
  dsimp only
  by_cases q:k=.free
  ·subst q
   refine zE (h _ hx rfl) fun a e=>?_
   simp only [beq_self_eq_true,if_true]
   unfold cellOf
   rw [e]
   rfl
  ·have:(k == NameKind.free)=false:=by simpa using q
   simp only [this,Bool.false_eq_true,if_false])]
 rfl
theorem jZ {cells:List (Str × Addr)} {x:Str} {a:Addr} (l:List (Str × NameKind)):∀ (acc:List (Str × Addr)),(∀ p∈l,p.2=.free→∃ a,cells.lookup p.1=some a)→(acc.lookup x=some a→cells.lookup x=some a)→(l.foldl (cU cells) acc).lookup x=some a→cells.lookup x=some a:=by
 induction l with
 | nil=>exact fun acc _ h e=>h e
 | cons p l ih=>
  intro acc hf h e
  refine ih _ (fun p hp=>hf p (.tail _ hp)) (fun z=>?_) e
  unfold cU at z
  by_cases q:(p.2 == NameKind.free)=true
  ·rw [if_pos q,List.lookup_cons] at z
   by_cases hx:x=p.1
   ·rw [hx,beq_self_eq_true] at z
    cases z
    refine zE (hf _ (.head _) (eq_of_beq q)) fun b hb=>?_
    rw [hx,hb]; rfl
   ·rw [beq_false_of_ne hx] at z; exact h z
  ·rw [if_neg q] at z; exact h z
theorem jN {cells:List (Str × Addr)} {x:Str} {a:Addr} (hx:cells.lookup x=some a) (l:List (Str × NameKind)):∀ (acc:List (Str × Addr)),(x,NameKind.free)∈l∨acc.lookup x=some a→(l.foldl (cU cells) acc).lookup x=some a:=by
 induction l with
 | nil=>exact fun acc h=>h.elim (fun h=>by cases h) id
 | cons p l ih=>
  intro acc h
  refine ih _ ?_
  unfold cU
  by_cases q:(p.2 == NameKind.free)=true
  ·rw [if_pos q]
   by_cases e:x=p.1
   ·right; rw [← e,List.lookup_cons,beq_self_eq_true,hx]; rfl
   ·rcases h with h | h
    ·cases h with
     | head=>exact absurd rfl e
     | tail _ h=>exact .inl h
    ·right; rw [List.lookup_cons,beq_false_of_ne e]; exact h
  ·rw [if_neg q]
   rcases h with h | h
   ·cases h with
    | head=>exact absurd rfl q
    | tail _ h=>exact .inl h
   ·exact .inr h
theorem oK {env:Env} {scope:Scope} {C:Addr} {cl:List (Str × Addr)} (hk:env.scope.kind=.function):(compEnvC scope cl C env).kindOf=kdC env.kindOf scope:=by
 funext x
 show (relabel scope env).names.lookup x=_
 unfold relabel kdC
 congr 1
 refine List.map_congr_left fun p _=>?_
 obtain ⟨n,k⟩:=p
 dsimp only
 rw [hk]
 simp
noncomputable def d3 (xs:List Nat) (x:Nat):Bool:=@List.rec _ (fun _=>Bool) false (fun y _ r=>cond (Nat.beq y x) true r) xs
noncomputable def rm (xs:List Nat) (l:Loc):Loc:=@List.rec _ (fun _=>Loc) [] (fun p _ r=>cond (d3 xs p.1) r (p :: r)) l
theorem lK {xs:List Nat} {x:Nat}:d3 xs x=true↔x∈xs:=by
 induction xs with
 | nil=>exact ⟨fun h=>(by cases h),fun h=>(by cases h)⟩
 | cons y l ih=>
  show cond (Nat.beq y x) true (d3 l x)=true↔_
  by_cases e:y=x
  ·subst e; rw [Nat.beq_refl]; exact ⟨fun _=>.head _,fun _=>rfl⟩
  ·rw [jl e]
   exact ⟨fun h=>.tail _ (ih.mp h),fun h=>ih.mpr (by cases h with | head=>exact absurd rfl e | tail _ h=>exact h)⟩
theorem oV {xs:List Nat} {x:Nat} {v:AV} {l:Loc} (e:lk (rm xs l) x=some v):lk l x=some v∧x∉xs:=by
 induction l with
 | nil=>cases e
 | cons p l ih=>
  obtain ⟨k,w⟩:=p
  have e:lk (cond (d3 xs k) (rm xs l) ((k,w) :: rm xs l)) x=some v:=e
  rw [bC]
  cases q:d3 xs k with
  | true=>
   rw [q] at e
   rw [if_neg fun z:k=x=>(ih e).2 (z▸lK.mp q)]
   exact ih e
  | false=>
   rw [q] at e
   have e:lk ((k,w) :: rm xs l) x=some v:=e
   rw [bC] at e
   by_cases z:k=x
   ·rw [if_pos z] at e ⊢
    exact ⟨e,fun h=>by rw [lK.mpr (z▸h)] at q; cases q⟩
   ·rw [if_neg z] at e ⊢
    exact ih e
theorem sS {kd:Kd} {x:Str} {k:NameKind} (l:List (Str × NameKind)) (e:(l.map fun p=>if (p.2 == NameKind.free && kd p.1 == some .cell) then (p.1,NameKind.cell) else p).lookup x=some k) :
  ∃ k0,(x,k0)∈l∧((k0=.free∧kd x=some .cell∧k=.cell)∨(k=k0∧¬ (k0=.free∧kd x=some .cell))):=by
 induction l with
 | nil=>cases e
 | cons p l ih=>
  obtain ⟨n,k0⟩:=p
  rw [List.map_cons] at e
  by_cases hx:x=n
  ·subst hx
   by_cases q:(k0 == NameKind.free && kd x == some .cell)=true
   ·rw [if_pos q,List.lookup_cons,beq_self_eq_true] at e
    cases e
    rw [Bool.and_eq_true] at q
    exact ⟨k0,.head _,.inl ⟨eq_of_beq q.1,eq_of_beq q.2,rfl⟩⟩
   ·rw [if_neg q,List.lookup_cons,beq_self_eq_true] at e
    cases e
    refine ⟨_,.head _,.inr ⟨rfl,fun z=>q ?_⟩⟩
    rw [z.1,z.2]; rfl
  ·have this:(x == n)=false:=beq_false_of_ne hx
   rw [List.lookup_cons] at e
   rw [show (x == (if (k0 == NameKind.free && kd n == some .cell)=true then (n,NameKind.cell) else (n,k0)).1)=false by split <;> exact this] at e
   refine zEA (ih e) fun k1 h1 h2=>?_
   exact ⟨k1,.tail _ h1,h2⟩
structure eN (kd:Kd) (scope:Scope) (xs:List Nat):Prop where
 kind:scope.kind=.function
 nocell:∀ p∈scope.names,p.2≠.cell
 free:∀ p∈scope.names,p.2=.free→kd p.1=some .cell∧∃ x,nmS x=p.1
 loc:∀ p∈scope.names,p.2=.local→scope.names.lookup p.1=some .local
 few:∀ p∈scope.names,p.2=.local→(∃ x∈xs,nmS x=p.1)∨p.1=(".0" : Str)
 tgt:∀ x∈xs,scope.names.lookup (nmS x)=some .local
theorem eQ {kd:Kd} {scope:Scope} {xs:List Nat} (h:dm kd scope xs=true):eN kd scope xs:=by
 unfold dm at h
 simp only [Bool.and_eq_true,List.all_eq_true,beq_iff_eq,bne_iff_ne,Bool.or_eq_true,List.any_eq_true] at h
 refine zA h fun gN0 h3=>?_
 obtain ⟨h1,h2⟩:=gN0
 refine ⟨h1,fun p hp=>(h2 p hp).1.1.1,fun p hp q=>?_,fun p hp q=>?_,fun p hp q=>?_,h3⟩
 ·rcases (h2 p hp).1.1.2 with z | z
  ·exact absurd q z
  ·unfold o7 at z
   rw [Bool.and_eq_true] at z
   exact ⟨eq_of_beq z.1,_,eq_of_beq z.2⟩
 ·exact (h2 p hp).1.2.elim (absurd q) id
 ·exact (h2 p hp).2.elim (fun z=>z.elim (absurd q) .inl) .inr
noncomputable abbrev bq:Nat:=12591
section
variable {c:Cx} {ρ δ:Nat→Addr} {T:Hp} {n:Nat} {h h':Heap} {loc:Loc} {env:Env} {scope:Scope} {xs:List Nat} {C:Addr}
theorem FR.comp (fr:FR c ρ δ n loc env h) (cf:eN env.kindOf scope xs) (hc:∀ p∈scope.names,p.2=.free→∃ a,env.cells.lookup p.1=some a) (hC:h.get? C=none) (off:Off c ρ δ n C) (hbC:c.hb.get? C=none)
  (k:∀ b o,h.get? b=some o→h'.get? b=some o) (ns:h'.Ns C fun _=>none):FR c ρ δ n (rm (bq :: xs) loc) (compEnvC scope (scope.names.foldl (cU env.cells) []) C env) h':=by
 have kd:=oK (env:=env) (scope:=scope) (C:=C) (cl:=scope.names.foldl (cU env.cells) []) fr.kind
 have cs:∀ {x a},(scope.names.foldl (cU env.cells) []).lookup x=some a→env.cells.lookup x=some a:=fun {x a} e=>jZ scope.names [] hc (fun z=>by cases z) e
 have kc:∀ {a v},h.IsCell a v→h'.IsCell a v:=fun {a v} ⟨o,q,r⟩=>⟨o,k _ o q,r⟩
 have kinds:∀ {x:Str} {q:NameKind},(compEnvC scope (scope.names.foldl (cU env.cells) []) C env).kindOf x=some q→∃ k0,(x,k0)∈scope.names∧((k0=.free∧env.kindOf x=some .cell∧q=.cell)∨(q=k0∧¬ (k0=.free∧env.kindOf x=some .cell))):=fun {x q} e=>by
  rw [kd] at e; exact sS _ e
 have isCell:∀ {x:Str},(compEnvC scope (scope.names.foldl (cU env.cells) []) C env).kindOf x=some .cell→env.kindOf x=some .cell∧(x,NameKind.free)∈scope.names:=fun {x} e=>by
  refine zEA (kinds e) fun k0 h1 h2=>?_
  rcases h2 with ⟨h3,h4,_⟩ | ⟨h3,_⟩
  ·subst h3; exact ⟨h4,h1⟩
  ·subst h3; exact absurd rfl (cf.nocell _ h1)
 refine ⟨cf.kind,fr.glo,fr.bui,off,hbC,?_,?_,?_,⟨_,ns,?_⟩,?_,?_⟩
 ·intro x a e
  refine zAA (fr.offC x a (cs e)) fun z1 z2 z3=>?_
  exact ⟨z1,aU z3 hC,let ⟨o,q⟩:=z3; ⟨o,k _ o q⟩⟩
 ·intro x a e1 e2
  exact fr.hbC x a (isCell e1).1 (cs e2)
 ·intro x y a e1 e2
  exact fr.inj x y a (cs e1) (cs e2)
 ·intro x v e q
  refine zA (oV e) fun l1 l2=>?_
  refine zEA (kinds q) fun k0 h1 h2=>?_
  rcases h2 with ⟨_,_,h3⟩ | ⟨h3,_⟩
  ·cases h3
  ·subst h3
   rcases cf.few _ h1 rfl with ⟨y,h4,h5⟩ | h4
   ·exact absurd (.tail _ (db h5▸h4)) l2
   ·have:x=bq:=db (h4.trans (by decide +kernel))
    subst this
    exact absurd (.head _) l2
 ·intro x v e q
  refine zA (oV e) fun l1 l2=>?_
  have:(nmS x,NameKind.free)∈scope.names:=by
   rcases q with q | q
   ·exact (isCell q).2
   ·obtain ⟨k0,h1,h2⟩:=kinds q
    rcases h2 with ⟨_,_,h3⟩ | ⟨h3,_⟩
    ·cases h3
    ·subst h3; exact h1
  refine zEEAA (fr.cel x v l1 (.inl (cf.free _ this rfl).1)) fun a val z1 z2 z3=>?_
  exact ⟨a,val,jN z1 scope.names [] (.inl this),kc z2,z3⟩
 ·intro x q
  refine zA (isCell q) fun h1 h2=>?_
  refine zEEA (fr.celE x h1) fun a v z1 z2=>?_
  exact ⟨a,v,jN z1 scope.names [] (.inl h2),kc z2⟩
theorem FR.cells (fr:FR c ρ δ n loc env h) (cf:eN env.kindOf scope xs):∀ p∈scope.names,p.2=.free→∃ a,env.cells.lookup p.1=some a:=fun p hp q=>by
 refine gp fun gP gH=>?_
 refine zAE (cf.free p hp q) fun z1 x z2=>?_
 obtain ⟨a,v,z3,_⟩:=fr.celE x (by rw [z2]; exact z1)
 apply gH;clear gH
 exact ⟨a,by rw [← z2]; exact z3⟩
end
theorem cw.self {prog:Program} {w:World} {A:Around} {s:Shared} {E:Value→Shared→Prop} {I a:Addr} {ik:IK} {i:Nat} {Q:Value→Shared→Prop} (it:cw s.heap I a ik i) (h:Q (.ref I) s):wpAny (model prog w) A (pyIter (.ref I)) Q E s:=by
 cases ik with
 | list=>exact wpAny_pyIter_listiter it h
 | tuple=>exact wpAny_pyIter_tupleiter it h
 | dict=>exact wpAny_pyIter_keyiter it h
 | range=>exact wpAny_pyIter_rangeiter it h
 | set=>exact rC it.1 h
noncomputable abbrev gK (env:Env):PySem.Expr→Bool→Sem (ForInStep Bool):=fun c r=>if r=true then do let ok ← isTrue c env (eval c env); pure (ForInStep.yield ok) else pure (ForInStep.yield r)
section
variable {prog:Program} {w:World} {A:Around} {s:Shared} {R:Result→Shared→Prop}
theorem fQ {elt target iter:PySem.Expr} {ifs:List PySem.Expr} {scope:Scope} {pos:Pos} {it acc:Value} {env:Env} {E:Value→Shared→Prop} (hE:E=notedBy (model prog w) A env fun e s'=>R (.error e) s')
  (h:wpAny (model prog w) A (pyNext it) (fun r s₁=>match r with
   | none=>R (.ok .next) s₁
   | some v=>wpAny (model prog w) A (letOwnedTupleGo target it v) (fun _ s₁'=>wpAny (model prog w) A (assign target env v) (fun _ s₂=>
     wpAny (model prog w) A (forIn ifs true (gK env)) (fun ok s₃=>
      if ok=true then wpAny (model prog w) A (eval elt env) (fun x s₄=>
       wpAny (model prog w) A (call (.builtin "list.append") [acc,x]) (fun _ s₅=>codeAny (model prog w) A (.compLoop (.ListComp elt [⟨target,iter,ifs,0⟩] scope pos) 0 it acc env) R s₅) E s₄) E s₃
      else codeAny (model prog w) A (.compLoop (.ListComp elt [⟨target,iter,ifs,0⟩] scope pos) 0 it acc env) R s₃) E s₂) E s₁') E s₁) E s) :
  codeAny (model prog w) A (.compLoop (.ListComp elt [⟨target,iter,ifs,0⟩] scope pos) 0 it acc env) R s:=by
 refine codeAny_of_tree ?_
 show wpAny _ A ((compTurn (.ListComp elt [⟨target,iter,ifs,0⟩] scope pos) 0 it acc env).onRaise (fun x=>do noteFrame x env; theTreesLotGoes x)) _ _ s
 refine wpAny_noted ?_
 rw [compTurn_list]
 subst hE
 refine WB (wpAny_standAt (WB (wpAny_mono h (fun r s₁ h₁=>?_) fun _ _ h'=>h')))
 cases r with
 | none=>exact WQ h₁
 | some v=>
  refine WB (wpAny_mono h₁ (fun _ s₁' h₁'=>?_) fun _ _ h'=>h')
  refine WB (wpAny_mono h₁' (fun _ s₂ h₂=>WB (wpAny_mono h₂ (fun ok s₃ h₃=>?_) fun _ _ h'=>h')) fun _ _ h'=>h')
  cases ok with
  | false=>exact WQ ⟨rfl,h₃⟩
  | true=>
   exact WB (WB (wpAny_mono h₃ (fun x s₄ h₄=>WB (wpAny_mono h₄ (fun _ s₅ h₅=>WQ (WQ ⟨rfl,h₅⟩)) fun _ _ h'=>h')) fun _ _ h'=>h'))
theorem fG {kx vx target iter:PySem.Expr} {ifs:List PySem.Expr} {scope:Scope} {pos:Pos} {it:Value} {D:Addr} {env:Env} {E:Value→Shared→Prop} (hE:E=notedBy (model prog w) A env fun e s'=>R (.error e) s')
  (h:wpAny (model prog w) A (pyNext it) (fun r s₁=>match r with
   | none=>R (.ok .next) s₁
   | some v=>wpAny (model prog w) A (letOwnedTupleGo target it v) (fun _ s₁'=>wpAny (model prog w) A (assign target env v) (fun _ s₂=>
     wpAny (model prog w) A (forIn ifs true (gK env)) (fun ok s₃=>
      if ok=true then wpAny (model prog w) A (eval kx env) (fun kv s₄=>wpAny (model prog w) A (eval vx env) (fun vv s₅=>
       wpAny (model prog w) A (dictSet D kv vv) (fun _ s₆=>codeAny (model prog w) A (.compLoop (.DictComp kx vx [⟨target,iter,ifs,0⟩] scope pos) 0 it (.ref D) env) R s₆) E s₅) E s₄) E s₃
      else codeAny (model prog w) A (.compLoop (.DictComp kx vx [⟨target,iter,ifs,0⟩] scope pos) 0 it (.ref D) env) R s₃) E s₂) E s₁') E s₁) E s) :
  codeAny (model prog w) A (.compLoop (.DictComp kx vx [⟨target,iter,ifs,0⟩] scope pos) 0 it (.ref D) env) R s:=by
 refine codeAny_of_tree ?_
 show wpAny _ A ((compTurn (.DictComp kx vx [⟨target,iter,ifs,0⟩] scope pos) 0 it (.ref D) env).onRaise (fun x=>do noteFrame x env; theTreesLotGoes x)) _ _ s
 refine wpAny_noted ?_
 rw [compTurn_dict]
 subst hE
 refine WB (wpAny_standAt (WB (wpAny_mono h (fun r s₁ h₁=>?_) fun _ _ h'=>h')))
 cases r with
 | none=>exact WQ h₁
 | some v=>
  refine WB (wpAny_mono h₁ (fun _ s₁' h₁'=>?_) fun _ _ h'=>h')
  refine WB (wpAny_mono h₁' (fun _ s₂ h₂=>WB (wpAny_mono h₂ (fun ok s₃ h₃=>?_) fun _ _ h'=>h')) fun _ _ h'=>h')
  cases ok with
  | false=>exact WQ ⟨rfl,h₃⟩
  | true=>
   exact WB (WB (wpAny_mono h₃ (fun kv s₄ h₄=>WB (WH (wpAny_mono h₄ (fun vv s₅ h₅=>WB (wpAny_standAt (WH (wpAny_mono h₅ (fun _ s₆ h₆=>WQ ⟨rfl,h₆⟩) fun _ _ h'=>h')))) fun _ _ h'=>h'))) fun _ _ h'=>h'))
end
section
variable {prog:Program} {w:World} {A:Around} {s:Shared} {R:Result→Shared→Prop}
theorem gS {elt target iter:PySem.Expr} {ifs:List PySem.Expr} {scope:Scope} {pos:Pos} {it acc:Value} {env:Env} {E:Value→Shared→Prop} (hE:E=notedBy (model prog w) A env fun e s'=>R (.error e) s')
  (h:wpAny (model prog w) A (pyNext it) (fun r s₁=>match r with
   | none=>R (.ok .next) s₁
   | some v=>wpAny (model prog w) A (letOwnedTupleGo target it v) (fun _ s₁'=>wpAny (model prog w) A (assign target env v) (fun _ s₂=>
     wpAny (model prog w) A (forIn ifs true (gK env)) (fun ok s₃=>
      if ok=true then wpAny (model prog w) A (eval elt env) (fun x s₄=>
       wpAny (model prog w) A (call (.builtin "set.add") [acc,x]) (fun _ s₅=>codeAny (model prog w) A (.compLoop (.SetComp elt [⟨target,iter,ifs,0⟩] scope pos) 0 it acc env) R s₅) E s₄) E s₃
      else codeAny (model prog w) A (.compLoop (.SetComp elt [⟨target,iter,ifs,0⟩] scope pos) 0 it acc env) R s₃) E s₂) E s₁') E s₁) E s) :
  codeAny (model prog w) A (.compLoop (.SetComp elt [⟨target,iter,ifs,0⟩] scope pos) 0 it acc env) R s:=by
 refine codeAny_of_tree ?_
 show wpAny _ A ((compTurn (.SetComp elt [⟨target,iter,ifs,0⟩] scope pos) 0 it acc env).onRaise (fun x=>do noteFrame x env; theTreesLotGoes x)) _ _ s
 refine wpAny_noted ?_
 rw [kC]
 subst hE
 refine WB (wpAny_standAt (WB (wpAny_mono h (fun r s₁ h₁=>?_) fun _ _ h'=>h')))
 cases r with
 | none=>exact WQ h₁
 | some v=>
  refine WB (wpAny_mono h₁ (fun _ s₁' h₁'=>?_) fun _ _ h'=>h')
  refine WB (wpAny_mono h₁' (fun _ s₂ h₂=>WB (wpAny_mono h₂ (fun ok s₃ h₃=>?_) fun _ _ h'=>h')) fun _ _ h'=>h')
  cases ok with
  | false=>exact WQ ⟨rfl,h₃⟩
  | true=>
   exact WB (WB (wpAny_mono h₃ (fun x s₄ h₄=>WB (wpAny_standAt (WB (wpAny_mono h₄ (fun _ s₅ h₅=>WQ (WQ ⟨rfl,h₅⟩)) fun _ _ h'=>h')))) fun _ _ h'=>h'))
end
noncomputable def Te (c:Cx) (l:PEs) (d:Nat) (loc:Loc) (T:Hp) (b:Bool) (T':Hp):Prop:=
 ∀ (xs:List PySem.Expr) (env:Env) (A:Around) (s:Shared) (ρ δ:Nat→Addr) (Q:Bool→Shared→Prop) (E:Value→Shared→Prop),MEs l env.kindOf xs→At c d loc T env A s ρ δ →
  (∀ ρ' δ' h' t',Go c No ρ δ T.n s.heap ρ' δ' T'.n h'→HR c ρ' δ' T' T'.n h'→Q b (Sh s h' t'))→wpAny (model c.prog c.w) A (forIn xs true (gK env)) Q E s
section
variable {c:Cx} {d:Nat} {loc:Loc} {T T1 T2:Hp} {e:PE} {l:PEs} {b:Bool}
theorem wz:Te c .nil d loc T true T:=by
 rintro _ env A s ρ δ Q E rfl a ct
 exact WQ (ct ρ δ s.heap s.toks Go.refl a.hr)
theorem xE (e1:Tr c e d loc T true T1) (e2:Te c l d loc T1 b T2):Te c (.cons e l) d loc T b T2:=by
 intro _ env A s ρ δ Q E gX0 a ct
 refine zEEAAA gX0 fun e' l' gR0 m1 m2 _=>?_
 clear gX0
 subst gR0
 rw [List.forIn_cons]
 refine WB (WB (e1 _ env A s ρ δ _ E m1 a fun ρ1 δ1 h1 t1 g1 hr1=>WQ ?_))
 exact e2 _ env A (Sh s h1 t1) ρ1 δ1 _ E m2 (a.go g1 hr1) fun ρ2 δ2 h2 t2 g2 hr2=>ct ρ2 δ2 h2 t2 (g1.trans g2) hr2
theorem tW (e1:Tr c e d loc T false T1):Te c (.cons e l) d loc T false T1:=by
 intro _ env A s ρ δ Q E gX0 a ct
 refine zEEAAA gX0 fun e' l' gR0 m1 m2 _=>?_
 clear gX0
 subst gR0
 rw [List.forIn_cons]
 refine WB (WB (e1 _ env A s ρ δ _ E m1 a fun ρ1 δ1 h1 t1 g1 hr1=>WQ ?_))
 have z:=ct ρ1 δ1 h1 t1 g1 hr1
 clear m2
 induction l' with
 | nil=>exact WQ z
 | cons x l' ih=>
  show wpAny _ _ (forIn (x :: l') false (gK env)) _ _ _
  rw [List.forIn_cons]
  exact WB (WQ ih)
end
inductive CK where | list (v:PE) | dict (k v:PE) | set (v:PE)
noncomputable def MC (kd:Kd) (ck:CK) (xs:List Nat) (ifs:PEs) (e:PySem.Expr):Prop:=match ck with
 | .list v=>∃ v' tg it ifs' scope p,e=.ListComp v' [⟨tg,it,ifs',0⟩] scope p∧ME v kd v'∧MT kd xs tg∧MEs ifs kd ifs'
 | .dict k v=>∃ k' v' tg it ifs' scope p,e=.DictComp k' v' [⟨tg,it,ifs',0⟩] scope p∧ME k kd k'∧ME v kd v'∧MT kd xs tg∧MEs ifs kd ifs'
 | .set v=>∃ v' tg it ifs' scope p,e=.SetComp v' [⟨tg,it,ifs',0⟩] scope p∧ME v kd v'∧MT kd xs tg∧MEs ifs kd ifs'
noncomputable def Co (c:Cx) (ck:CK) (acc:Nat) (xs:List Nat) (src:Nat) (ik:IK) (i:Nat) (ifs:PEs) (d:Nat) (loc:Loc) (T T':Hp):Prop:=
 ∀ (e:PySem.Expr) (env:Env) (A:Around) (s:Shared) (h1:Heap) (t1:Nat) (ρ0 δ0 ρ δ:Nat→Addr) (n0:Nat) (I:Addr) (R:Result→Shared→Prop),MC env.kindOf ck xs ifs e→(∀ x∈xs,env.kindOf (nmS x)=some .local)→At c d loc T env A (Sh s h1 t1) ρ δ →
  Off c ρ δ T.n I→c.hb.get? I=none→¬ Own env I→src<T.n→acc<T.n→cw h1 I (ρ src) ik i→s.heap.get? I=none→s.heap.get? env.locals=none→Go c No ρ0 δ0 n0 s.heap ρ δ T.n h1 →
  (∀ ρ' δ' h' t',Go c No ρ0 δ0 n0 s.heap ρ' δ' T'.n h'→HR c ρ' δ' T' T'.n h'→Off c ρ' δ' T'.n env.locals→acc<T'.n→ρ' acc=ρ acc→(∃ m,h'.Ns env.locals m)→R (.ok .next) (Sh s h' t')) →
  codeAny (model c.prog c.w) A (.compLoop e 0 (.ref I) (.ref (ρ acc)) env) R (Sh s h1 t1)
section
variable {c:Cx} {ck:CK} {d acc src i:Nat} {xs:List Nat} {ik:IK} {ifs:PEs} {loc loc1:Loc} {T T1 T2 T3 T4:Hp} {x y kx:AV} {k v:PE} {ys:List AV} {es:List (AV × AV)} {ep:Nat}
theorem om (e:cV T src i none ik):Co c ck acc xs src ik i ifs d loc T T:=by
 intro ex env A s h1 t1 ρ0 δ0 ρ δ n0 I R mc tl a off hbI nOwn hs ha it dead deadL g ct
 have fin:∀ {Q:Option Value→Shared→Prop} {E:Value→Shared→Prop},(∀ s',R (.ok .next) s'→Q none s')→wpAny (model c.prog c.w) A (pyNext (.ref I)) Q E (Sh s h1 t1):=fun z=>
  nk (s:=Sh s h1 t1) e a.hr it a.ro.2.2 fun h2 eb=>z _ (ct ρ δ h2 t1 (g.iter eb dead) (a.hr.of_ext eb off hbI) a.fr.offL ha rfl (let ⟨m,q,_⟩:=(a.fr.of_ext eb nOwn).ns; ⟨m,q⟩))
 cases ck with
 | list=>obtain ⟨v',tg,it',ifs',scope,p,rfl,_⟩:=mc; exact fQ rfl (fin fun s' z=>z)
 | dict=>obtain ⟨k',v',tg,it',ifs',scope,p,rfl,_⟩:=mc; exact fG rfl (fin fun s' z=>z)
 | set=>obtain ⟨v',tg,it',ifs',scope,p,rfl,_⟩:=mc; exact gS rfl (fin fun s' z=>z)
theorem eK {b:Bool} {tg:PySem.Expr} {ifs':List PySem.Expr} {env:Env} {A:Around} {s:Shared} {h1:Heap} {t1:Nat} {ρ0 δ0 ρ δ:Nat→Addr} {n0:Nat} {I:Addr} {P:Option Value→Shared→Prop} {E:Value→Shared→Prop} {K:Bool→Shared→Prop} (e:cV T src i (some x) ik) (eb:bY T xs x loc loc1) (e2:Te c ifs d loc1 T b T1) (mt:MT env.kindOf xs tg) (mi:MEs ifs env.kindOf ifs') (tl:∀ x∈xs,env.kindOf (nmS x)=some .local) (a:At c d loc T env A (Sh s h1 t1) ρ δ)
  (off:Off c ρ δ T.n I) (hbI:c.hb.get? I=none) (nOwn:¬ Own env I) (it:cw h1 I (ρ src) ik i) (dead:s.heap.get? I=none) (deadL:s.heap.get? env.locals=none) (g:Go c No ρ0 δ0 n0 s.heap ρ δ T.n h1)
  (hP:∀ val s₁,wpAny (model c.prog c.w) A (letOwnedTupleGo tg (.ref I) val) (fun _ s₁'=>wpAny (model c.prog c.w) A (assign tg env val) (fun _ s₂=>wpAny (model c.prog c.w) A (forIn ifs' true (gK env)) K E s₂) E s₁') E s₁→P (some val) s₁)
  (k:∀ ρ4 δ4 h3 h4 t4,Go c No ρ0 δ0 n0 s.heap ρ δ T.n h3→cw h3 I (ρ src) ik (i+1)→Go c No ρ δ T.n h3 ρ4 δ4 T1.n h4→At c d loc1 T1 env A (Sh s h4 t4) ρ4 δ4→K b (Sh s h4 t4)):wpAny (model c.prog c.w) A (pyNext (.ref I)) P E (Sh s h1 t1):=by
 have nL:I≠env.locals:=fun z=>nOwn (.inl z)
 refine jY (s:=Sh s h1 t1) e a.hr it fun h2 t2 val vr sb it2=>hP _ _ ?_
 refine cw.own (s:=Sh s h2 t2) it2 ?_
 refine jP (X:=fun a=>a=env.locals) (s:=Sh s h2 t2) eb mt (a.fr.of_ext sb.extBut nOwn) (a.hr.of_ext sb.extBut off hbI) a.ro vr (fun h3 t3 g3 hr3 fr3=>?_) (fun y hy=>⟨fun _=>rfl,fun a q _=>by rw [tl y hy] at q; cases q⟩)
 have G3:Go c No ρ0 δ0 n0 s.heap ρ δ T.n h3:=((g.iter sb.extBut dead).any.trans g3).weak fun a la z=>(aU la deadL z).elim
 have f3:∃ e l,Fm c ρ δ T.n A h3 (e :: l)∧e.frame=env.frame:=let ⟨e,l,f,q⟩:=a.fm; ⟨e,l,(f.ext sb.extBut it.nodict).go g3,q⟩
 exact e2 ifs' env A (Sh s h3 t3) ρ δ _ _ mi ⟨fr3,hr3,a.ro,f3⟩ fun ρ4 δ4 h4 t4 g4 hr4=>k ρ4 δ4 h3 h4 t4 G3 (it2.go g3 off nL) g4 ⟨fr3.go g4,hr4,a.ro,let ⟨e,l,f,q⟩:=f3; ⟨e,l,f.go g4,q⟩⟩
theorem f9 {e:PySem.Expr} {env:Env} {A:Around} {s:Shared} {ρ0 δ0 ρ δ ρ' δ':Nat→Addr} {h3 h4:Heap} {t4 n0:Nat} {I:Addr} {R:Result→Shared→Prop} (e3:Co c ck acc xs src ik (i+1) ifs d loc1 T1 T2) (mc:MC env.kindOf ck xs ifs e) (tl:∀ x∈xs,env.kindOf (nmS x)=some .local) (ro:fY d A)
  (off:Off c ρ δ T.n I) (hbI:c.hb.get? I=none) (nOwn:¬ Own env I) (hs:src<T.n) (ha:acc<T.n) (dead:s.heap.get? I=none) (deadL:s.heap.get? env.locals=none)
  (ct:∀ ρ' δ' h' t',Go c No ρ0 δ0 n0 s.heap ρ' δ' T2.n h'→HR c ρ' δ' T2 T2.n h'→Off c ρ' δ' T2.n env.locals→acc<T2.n→ρ' acc=ρ acc→(∃ m,h'.Ns env.locals m)→R (.ok .next) (Sh s h' t'))
  (g3:Go c No ρ0 δ0 n0 s.heap ρ δ T.n h3) (it3:cw h3 I (ρ src) ik (i+1)) (g4:Go c No ρ δ T.n h3 ρ' δ' T1.n h4) (hr4:HR c ρ' δ' T1 T1.n h4) (fr4:FR c ρ' δ' T1.n loc1 env h4) (f4:∃ e l,Fm c ρ' δ' T1.n A h4 (e :: l)∧e.frame=env.frame):codeAny (model c.prog c.w) A (.compLoop e 0 (.ref I) (.ref (ρ acc)) env) R (Sh s h4 t4):=by
 rw [← (g4.same acc ha).1]
 refine e3 e env A s h4 t4 ρ0 δ0 ρ' δ' n0 I R mc tl ⟨fr4,hr4,ro,f4⟩ (g4.off off it3.live) hbI nOwn (Nat.lt_of_lt_of_le hs g4.le) (Nat.lt_of_lt_of_le ha g4.le) ?_ dead deadL (g3.trans g4) ?_
 ·rw [(g4.same src hs).1]
  exact it3.go g4 off id
 ·intro ρ5 δ5 h5 t5 z1 z2 z3 z4 z5 z6
  exact ct ρ5 δ5 h5 t5 z1 z2 z3 z4 (z5.trans (g4.same acc ha).1) z6
theorem uE (e:cV T src i (some x) ik) (eb:bY T xs x loc loc1) (e2:Te c ifs d loc1 T false T1) (e3:Co c ck acc xs src ik (i+1) ifs d loc1 T1 T2):Co c ck acc xs src ik i ifs d loc T T2:=by
 intro ex env A s h1 t1 ρ0 δ0 ρ δ n0 I R mc tl a off hbI nOwn hs ha it dead deadL g ct
 have mc':=mc
 have K:∀ ρ4 δ4 h3 h4 t4,Go c No ρ0 δ0 n0 s.heap ρ δ T.n h3→cw h3 I (ρ src) ik (i+1)→Go c No ρ δ T.n h3 ρ4 δ4 T1.n h4→At c d loc1 T1 env A (Sh s h4 t4) ρ4 δ4→codeAny (model c.prog c.w) A (.compLoop ex 0 (.ref I) (.ref (ρ acc)) env) R (Sh s h4 t4):=
  fun ρ4 δ4 h3 h4 t4 G3 it3 g4 a4=>f9 e3 mc' tl a.ro off hbI nOwn hs ha dead deadL ct G3 it3 g4 a4.hr a4.fr a4.fm
 cases ck with
 | list=>obtain ⟨v',tg,it',ifs',scope,p,rfl,mv,mt,mi⟩:=mc; exact fQ rfl (eK e eb e2 mt mi tl a off hbI nOwn it dead deadL g (fun _ _ z=>z) K)
 | dict=>obtain ⟨k',v',tg,it',ifs',scope,p,rfl,mk,mv,mt,mi⟩:=mc; exact fG rfl (eK e eb e2 mt mi tl a off hbI nOwn it dead deadL g (fun _ _ z=>z) K)
 | set=>obtain ⟨v',tg,it',ifs',scope,p,rfl,mv,mt,mi⟩:=mc; exact gS rfl (eK e eb e2 mt mi tl a off hbI nOwn it dead deadL g (fun _ _ z=>z) K)
theorem uU (e:cV T src i (some x) ik) (eb:bY T xs x loc loc1) (e2:Te c ifs d loc1 T true T1) (ev:Ev c v d loc1 T1 y T2) (ho:T2.get acc=some (.list ys)) (sz:ys.length<4000) (hro:1≤acc) (e3:Co c (.list v) acc xs src ik (i+1) ifs d loc1 (aI T2 acc (.list (ys ++ [y]))) T3):Co c (.list v) acc xs src ik i ifs d loc T T3:=by
 intro ex env A s h1 t1 ρ0 δ0 ρ δ n0 I R mc tl a off hbI nOwn hs ha it dead deadL g ct
 have mc':=mc
 refine zEEEEEE mc fun v' tg it' ifs' scope p gC0=>?_
 refine zAAA gC0 fun gR0 mv mt mi=>?_
 subst gR0
 refine fQ rfl (eK e eb e2 mt mi tl a off hbI nOwn it dead deadL g (fun _ _ z=>z) fun ρ4 δ4 h3 h4 t4 G3 it3 g4 a4=>?_)
 refine ev _ env A (Sh s h4 t4) ρ4 δ4 _ _ mv a4 fun ρ5 δ5 h5 t5 vy g5 hr5 vr5=>?_
 have la:=Nat.lt_of_lt_of_le ha g4.le
 have ea:ρ5 acc=ρ acc:=by rw [(g5.same acc la).1,(g4.same acc ha).1]
 rw [← ea]
 refine zAEEA (hr5.obj _ _ ho) fun lt vals kk q1 q2=>?_
 rw [q2.len] at sz
 refine wpAny_list_append_plain (s:=Sh s h5 t5) (items:=vals.toArray) ⟨kk,q1⟩ (fun h' z1 z2=>?_) (by rw [List.size_toArray]; exact szl (by first | assumption | omega))
 refine gp fun gP gH=>?_
 obtain ⟨k2,z1⟩:=z1
 obtain ⟨hr6,g6⟩:=hr5.turn1 (X:=No) (ao:=.list (ys ++ [y])) (h':=h') hro lt z2.extBut ⟨_,z1⟩ ⟨vals ++ [vy],k2,by rw [z1]; simp [W.listOf],q2.append ⟨vr5,trivial⟩⟩
 apply gH;clear gH
 rw [ea]
 exact f9 (s:=s) (T1:=aI T2 acc (.list (ys ++ [y]))) e3 mc' tl a.ro off hbI nOwn hs ha dead deadL ct G3 it3 (g4.trans (g5.trans g6)) hr6 ((a4.fr.go g5).go g6) (a4.fgo (g5.trans g6))
theorem wq {g:List Nat} {j:Nat} (e:cV T src i (some x) ik) (eb:bY T xs x loc loc1) (e2:Te c ifs d loc1 T true T1) (ev:Ev c v d loc1 T1 (.int (j:Int)) T2) (ho:T2.get acc=some (.set g none)) (hk:okAdd g j=true) (hro:1≤acc) (e3:Co c (.set v) acc xs src ik (i+1) ifs d loc1 (aI T2 acc (.set (g ++ [j]) none)) T3):Co c (.set v) acc xs src ik i ifs d loc T T3:=by
 intro ex env A s h1 t1 ρ0 δ0 ρ δ n0 I R mc tl a off hbI nOwn hs ha it dead deadL g0 ct
 have mc':=mc
 refine zEEEEEE mc fun v' tg it' ifs' scope p gC0=>?_
 refine zAAA gC0 fun gR0 mv mt mi=>?_
 subst gR0
 refine gS rfl (eK e eb e2 mt mi tl a off hbI nOwn it dead deadL g0 (fun _ _ z=>z) fun ρ4 δ4 h3 h4 t4 G3 it3 g4 a4=>?_)
 refine ev _ env A (Sh s h4 t4) ρ4 δ4 _ _ mv a4 fun ρ5 δ5 h5 t5 vy g5 hr5 vr5=>?_
 have la:=Nat.lt_of_lt_of_le ha g4.le
 have ea:ρ5 acc=ρ acc:=by rw [(g5.same acc la).1,(g4.same acc ha).1]
 rw [← ea]
 refine zAEEEAA (hr5.obj _ _ ho) fun lt g' es ep q1 q2 gC0=>?_
 refine zA gC0 fun q3 q4=>?_
 cases q3 rfl
 refine zE vr5 fun t gR0=>?_
 subst gR0
 refine uW (s:=Sh s h5 t5) q2 hk fun h' z2 z1=>?_
 refine zA (hr5.turn1 (X:=No) (ao:=.set (g ++ [j]) none) (h':=h') hro lt z2.extBut ⟨_,z1.1⟩ ⟨_,_,_,(rq hk).2,z1,fun _=>rfl,fun _ z=>by cases z⟩) fun hr6 g6=>?_
 rw [ea]
 exact f9 (s:=s) (T1:=aI T2 acc (.set (g ++ [j]) none)) e3 mc' tl a.ro off hbI nOwn hs ha dead deadL ct G3 it3 (g4.trans (g5.trans g6)) hr6 ((a4.fr.go g5).go g6) (a4.fgo (g5.trans g6))
theorem uQ (e:cV T src i (some x) ik) (eb:bY T xs x loc loc1) (e2:Te c ifs d loc1 T true T1) (ek:Ev c k d loc1 T1 kx T2) (ev:Ev c v d loc1 T2 y T3) (ho:T3.get acc=some (.dict es ep)) (hk:kOk kx es=true) (sz:es.length<4000) (hro:1≤acc) (e3:Co c (.dict k v) acc xs src ik (i+1) ifs d loc1 (aI T3 acc (.dict (dpt kx y es) (epS kx es ep))) T4):Co c (.dict k v) acc xs src ik i ifs d loc T T4:=by
 intro ex env A s h1 t1 ρ0 δ0 ρ δ n0 I R mc tl a off hbI nOwn hs ha it dead deadL g ct
 have mc':=mc
 refine zEEEEEE mc fun k' v' tg it' ifs' scope gC0=>?_
 refine zEAAAA gC0 fun p gR0 mk mv mt mi=>?_
 subst gR0
 refine fG rfl (eK e eb e2 mt mi tl a off hbI nOwn it dead deadL g (fun _ _ z=>z) fun ρ4 δ4 h3 h4 t4 G3 it3 g4 a4=>?_)
 refine ek _ env A (Sh s h4 t4) ρ4 δ4 _ _ mk a4 fun ρ5 δ5 h5 t5 vk g5 hr5 vr5=>?_
 have a5:=At.go (t':=t5) a4 g5 hr5
 refine ev _ env A (Sh s h5 t5) ρ5 δ5 _ _ mv a5 fun ρ6 δ6 h6 t6 vy g6 hr6 vr6=>?_
 have la:=Nat.lt_of_lt_of_le ha g4.le
 have lb:=Nat.lt_of_lt_of_le la g5.le
 have ea:ρ6 acc=ρ acc:=by rw [(g6.same acc lb).1,(g5.same acc la).1,(g4.same acc ha).1]
 rw [← ea]
 refine (DR.set (s:=Sh s h6 t6) (hr6.obj _ _ ho).2 hk sz (g6.vr vr5) vr6 fun h7 t7 x' sb'=>?_).2
 refine zA (hr6.turn1 (ao:=.dict (dpt kx y es) (epS kx es ep)) (X:=No) hro (Nat.lt_of_lt_of_le lb g6.le) sb'.extBut x'.live x') fun hr7 g7=>?_
 rw [ea]
 exact f9 (s:=s) (T1:=aI T3 acc (.dict (dpt kx y es) (epS kx es ep))) e3 mc' tl a.ro off hbI nOwn hs ha dead deadL ct G3 it3 (g4.trans (g5.trans (g6.trans g7))) hr7 ((a5.fr.go g6).go g7) (a5.fgo (g6.trans g7))
end
section
variable {c:Cx} {d:Nat} {loc:Loc} {T T1 T2:Hp}
theorem gB {ck:CK} {xs:List Nat} {ifs:PEs} {e:PySem.Expr} {scope:Scope} {env:Env} {A:Around} {s:Shared} {ρ δ:Nat→Addr} {r:Nat} {ik:IK} {ao:AO} {lo:Obj} {Q E:Value→Shared→Prop} {newAcc:Sem Value} {use:Option (Value→Sem Unit)}
  (hacc:∀ {s:Shared} {Q:Value→Shared→Prop},Q (.ref s.heap.objs.size) { s with heap:=s.heap.push lo }→wpAny (model c.prog c.w) A newAcc Q E s)
  (hor:∀ {n:Nat} {ρ:Nat→Addr} {H:Heap},(∀ b o,c.hb.get? b=some o→H.get? b=some o)→OR c n ρ (H.push lo) H.objs.size H.objs.size ao) (hlo:lo.isFreed=false)
  (hst:∀ {it acc:Value} {env:Env} {R:Result→Shared→Prop} {s:Shared},codeAny (model c.prog c.w) A (.compLoop e 0 it acc env) R s→wpAny (model c.prog c.w) A (pyIter it) (fun it' s'=>codeAny (model c.prog c.w) A (.compLoop e 0 it' acc env) R s') (notedBy (model c.prog c.w) A env fun x s'=>R (.error x) s') s→codeAny (model c.prog c.w) A (.compStart e 0 it acc env) R s)
  (mc:MC (kdC env.kindOf scope) ck xs ifs e) (cf:eN env.kindOf scope xs) (eik:ed T r ik) (hv:Co c ck T.n xs r ik 0 ifs d (rm (bq :: xs) loc) (aq T ao) T2)
  (lt:r<T.n) (a:At c d loc T env A s ρ δ) (ct:∀ (C:Addr) ρ' δ' h' t',s.heap.get? C=none→Go c No ρ δ T.n s.heap ρ' δ' T2.n h'→HR c ρ' δ' T2 T2.n h'→Off c ρ' δ' T2.n C→T.n<T2.n→(∃ m,h'.Ns C m)→compPost (model c.prog c.w) A E use Q (.ref (ρ' T.n)) C (.ok .next) (Sh s h' t')) :
  wpAny (model c.prog c.w) A (pyIter (.ref (ρ r))) (fun it s₂=>wpAny (model c.prog c.w) A newAcc (fun acc s₃=>
   wpAny (model c.prog c.w) A (newFunctionEnv scope env.globals (scope.names.foldl (cU env.cells) []) [] env.qual none .none (some env)) (fun cenv s₄=>
    codeAny (model c.prog c.w) A (.compStart e 0 it acc { cenv with scope:=relabel scope env }) (compPost (model c.prog c.w) A E use Q acc cenv.locals) s₄) E s₃) E s₂) E s:=by
 refine gp fun gP gH=>?_
 obtain ⟨fr,hr,ro,fe,fl,fm,ff⟩:=a
 apply gH;clear gH
 refine mI eik hr fun ob hf ia=>hacc ?_
 have hc:=fr.cells cf
 have dI:s.heap.get? s.heap.objs.size=none:=bo _ (Nat.le_refl _)
 have k1:∀ b o,s.heap.get? b=some o→(s.heap.push ob).get? b=some o:=fun b o e=>Heap.get?_push_of_some _ e
 have lI:bl (s.heap.push ob) s.heap.objs.size:=⟨ob,Heap.get?_push_size _ hf⟩
 have hr1:HR c ρ δ T T.n (s.heap.push ob):=hr.of_keeps k1
 have offI:Off c ρ δ T.n s.heap.objs.size:=hr.offNew dI
 have hbI:c.hb.get? s.heap.objs.size=none:=hr.dead dI
 have fr1:FR c ρ δ T.n loc env (s.heap.push ob):=fr.go (Go.of_keeps (X:=No) k1)
 dsimp only
 generalize hH1:s.heap.push ob=H1 at *
 refine zA (hr1.push (X:=No) (o:=lo) (ce T ao) hlo (hor hr1.base)) fun hr2 g2=>?_
 have fr2:=fr1.go g2
 have lI2:bl (H1.push lo) s.heap.objs.size:=let ⟨o,q⟩:=lI; ⟨o,Heap.get?_push_of_some _ q⟩
 generalize hH2:H1.push lo=H2 at *
 refine wpAny_newFunctionEnv cf.nocell (by intro y hy; cases hy) (fun h3 ns sb=>?_) cf.kind
 dsimp only at ns sb ⊢
 have dC:H2.get? H2.objs.size=none:=bo _ (Nat.le_refl _)
 have k3:∀ b o,H2.get? b=some o→h3.get? b=some o:=fun b o q=>sb.extBut b o (Nat.ne_of_lt (Heap.lt_size q)) (Heap.get?_push_of_some _ q)
 have k02:∀ b o,s.heap.get? b=some o→H2.get? b=some o:=fun b o q=>by rw [← hH2]; exact Heap.get?_push_of_some _ (k1 b o q)
 have offC:Off c (ext ρ T.n H1.objs.size) (ext δ T.n H1.objs.size) (T.n+1) H2.objs.size:=hr2.offNew (s:={ s with heap:=H2 }) dC
 have hbC:c.hb.get? H2.objs.size=none:=hr2.dead (s:={ s with heap:=H2 }) dC
 have frc:=fr2.comp cf hc dC offC hbC k3 ns
 have hr3:=hr2.of_keeps k3
 have dC0:s.heap.get? H2.objs.size=none:=by
  cases q:s.heap.get? H2.objs.size with
  | none=>rfl
  | some o=>rw [k02 _ _ q] at dC; cases dC
 have ia3:cw h3 s.heap.objs.size (ρ r) ik 0:=by
  refine zEAA ia.obj fun o q _ k=>?_
  exact k _ (k3 _ _ (by rw [← hH2]; exact Heap.get?_push_of_some _ q))
 have loop:codeAny (model c.prog c.w) A (.compLoop e 0 (.ref s.heap.objs.size) (.ref H1.objs.size) (compEnvC scope (scope.names.foldl (cU env.cells) []) H2.objs.size env)) (compPost (model c.prog c.w) A E use Q (.ref H1.objs.size) H2.objs.size) (Sh s h3 s.toks):=by
  have ea:ext ρ T.n H1.objs.size T.n=H1.objs.size:=bD ..
  have er:ext ρ T.n H1.objs.size r=ρ r:=bx lt
  rw [show (Value.ref H1.objs.size)=Value.ref (ext ρ T.n H1.objs.size T.n) by rw [ea]]
  refine hv e (compEnvC scope (scope.names.foldl (cU env.cells) []) H2.objs.size env) A s h3 s.toks ρ δ (ext ρ T.n H1.objs.size) (ext δ T.n H1.objs.size) T.n s.heap.objs.size _ (by rw [oK fr.kind]; exact mc) ?_ ⟨frc,hr3,ro,fe,fl,fm.go ((Go.of_keeps (X:=No) k1).trans (g2.trans (Go.of_keeps k3))),ff⟩ (g2.off offI lI) hbI ?_ (Nat.lt_succ_of_lt lt) (Nat.lt_succ_self _) (by rw [er]; exact ia3) dI dC0 ((Go.of_keeps k1).trans (g2.trans (Go.of_keeps k3))) ?_
  ·intro x hx
   exact lookup_relabel_local (cf.tgt x hx)
  ·rintro (z | ⟨x,z⟩)
   ·exact aU lI2 dC z
   ·have:=jZ scope.names [] hc (fun z=>by cases z) z
    exact aU (fr.offC x _ this).2.2 dI rfl
  ·intro ρ' δ' h' t' z1 z2 z3 z4 z5 z6
   have:=ct _ ρ' δ' h' t' dC0 z1 z2 z3 z4 z6
   rw [z5] at this
   exact this
 exact hst loop (cw.self (s:=Sh s h3 s.toks) ia3 loop)
variable {it k v:PE} {xs:List Nat} {x:Nat} {ifs:PEs} {r:Nat} {ik:IK}
theorem jR {s:Shared} {ρ δ:Nat→Addr} {A:Around} {E Q:Value→Shared→Prop} (hr:HR c ρ δ T T.n s.heap) (ct:Kv c s ρ δ T T2 (.ref T.n) Q) (C:Addr) (ρ' δ':Nat→Addr) (h':Heap) (t':Nat) (dC:s.heap.get? C=none) (z1:Go c No ρ δ T.n s.heap ρ' δ' T2.n h') (z2:HR c ρ' δ' T2 T2.n h') (z3:Off c ρ' δ' T2.n C) (z4:T.n<T2.n) (z6:∃ m,h'.Ns C m):compPost (model c.prog c.w) A E none Q (.ref (ρ' T.n)) C (.ok .next) (Sh s h' t'):=
 let ⟨m,z6⟩:=z6; ⟨m,z6,fun h'' sb'=>ct ρ' δ' h'' t' _ (z1.iter sb'.extBut dC) (z2.of_ext sb'.extBut z3 (hr.dead dC)) ⟨z4,rfl⟩⟩
theorem dQ (e1:Ev c it d loc T (.ref r) T1) (hk:ed T1 r ik) (e2:Co c (.list v) T1.n xs r ik 0 ifs d (rm (bq :: xs) loc) (aq T1 (.list [])) T2):Ev c (.listc v xs it ifs) d loc T (.ref T1.n) T2:=by
 intro _ env A s ρ δ Q E gX0 a ct
 refine zEEEEEE gX0 fun v' tg it' ifs' scope p gC0=>?_
 refine zAAAAAA gC0 fun gR0 m1 ns ck mv mt mi=>?_
 clear gX0
 subst gR0
 have cf:=eQ ck
 rw [eval_ListComp]
 refine wpAny_comprehension_free (use:=none) (g:=⟨tg,it',ifs',0⟩) (gs:=[]) rfl (fun x=>gC ns x) (iI (a.fr.cells cf)) cf.kind cf.loc ?_
 show wpAny _ _ (eval it' env) _ _ _
 refine e1 _ env A s ρ δ _ E m1 a fun ρ1 δ1 h' t1 va g1 hr1 vr1=>?_
 rw [vr1.2]
 exact gB (ck:=.list v) (s:=Sh s h' t1) (lo:={ cls:=.type "list",data:=.seq ([]:List Value).toArray }) (ao:=.list []) (fun z=>wpAny_newObj_type z) (fun _=>⟨[],0,Heap.get?_push_size _ rfl,trivial⟩) rfl codeAny_compStart_list ⟨v',tg,it',ifs',scope,p,rfl,mv,mt,mi⟩ cf hk e2 vr1.1 (a.go g1 hr1) (jR (s:=Sh s h' t1) hr1 (ct.go g1))
theorem p6 {v:PySem.Expr} {gs:List PySem.Comprehension} {s:Scope} {p:Pos} {y:Str} {np:Pos} {l:Nat} {env:Env} (hk:env.scope.kind=.function) (h:swp env.kindOf (.ListComp v gs s p) y np=true):swapsWith (.ListComp v gs s p) (some (.Name y np)) l env=pure true:=by
 have b:(env.blockKind == ScopeKind.function)=true:=by unfold Env.blockKind; rw [hk]; rfl
 have h:(env.kindOf y == some .local && np.line == p.line && !(s.names.any fun q=>q.1 == y && (q.2 == .local || q.2 == .cell)))=true:=h
 show (pure (env.blockKind == ScopeKind.function && env.kindOf y == some .local && np.line == p.line && !(s.names.any fun q=>q.1 == y && (q.2 == .local || q.2 == .cell))):Sem Bool)=pure true
 rw [b,Bool.true_and,h]
theorem vY (e1:Ev c it d loc T (.ref r) T1) (hk:ed T1 r ik) (e2:Co c (.list v) T1.n xs r ik 0 ifs d (rm (bq :: xs) loc) (aq T1 (.list [])) T2):St c (.asgC x v xs it ifs) d loc T (.nxt (pt loc x (.ref T1.n))) T2:=by
 intro _ env A s ρ δ Q E gX0 a ct
 refine gp fun gP gH=>?_
 refine zEEEAA gX0 fun np _ sp gR0 gN1 sw=>?_
 clear gX0
 subst gR0
 obtain ⟨v',tg,it',ifs',scope,p,rfl,m1,ns,ck,mv,mt,mi⟩:=gN1
 apply gH;clear gH
 have cf:=eQ ck
 have ml:eH? (env.kindOf (nmS x))=true:=by
  have h:(env.kindOf (nmS x) == some .local && np.line == p.line && !(scope.names.any fun q=>q.1 == nmS x && (q.2 == .local || q.2 == .cell)))=true:=sw
  rw [Bool.and_eq_true,Bool.and_eq_true] at h
  rw [eq_of_beq h.1.1]; rfl
 rw [exec_Assign_Name_used _ _ _ _ (p6 a.fr.kind sw)]
 refine WB (wpAny_standAt (WB ?_))
 show wpAny _ A (do let _ ← comprehension (.ListComp v' [⟨tg,it',ifs',0⟩] scope p) scope env _ (newList []) false (eval it' env) (some (assign (.Name (nmS x) np) env))) _ _ s
 refine WB (wpAny_mono (wpAny_comprehension_free (use:=some (assign (.Name (nmS x) np) env)) (Q:=fun _ s'=>Q .next s') (g:=⟨tg,it',ifs',0⟩) (gs:=[]) rfl (fun x=>gC ns x) (iI (a.fr.cells cf)) cf.kind cf.loc ?_) (fun _ s' hq=>WQ (WQ hq)) fun _ _ e=>e)
 show wpAny _ _ (eval it' env) _ _ _
 refine e1 _ env A s ρ δ _ E m1 a fun ρ1 δ1 h' t1 va g1 hr1 vr1=>?_
 rw [vr1.2]
 refine gB (ck:=.list v) (s:=Sh s h' t1) (lo:={ cls:=.type "list",data:=.seq ([]:List Value).toArray }) (ao:=.list []) (fun z=>wpAny_newObj_type z) (fun _=>⟨[],0,Heap.get?_push_size _ rfl,trivial⟩) rfl codeAny_compStart_list ⟨v',tg,it',ifs',scope,p,rfl,mv,mt,mi⟩ cf hk e2 vr1.1 (a.go g1 hr1) ?_
 intro C ρ' δ' h2 t2 dC z1 z2 z3 z4 ⟨m,z6⟩
 have fr1:=a.fr.go g1
 have nOwn:¬ Own env C:=by
  rintro (z | ⟨y,z⟩)
  ·obtain ⟨m,q,_⟩:=fr1.ns
   exact aU (da q) dC z.symm
  ·exact aU (fr1.offC y _ z).2.2 dC rfl
 refine wpAny_assign_Name (eS (s:=Sh s h2 t2) (v:=.ref T1.n) (fr1.go z1) z2 ⟨z4,rfl⟩ ml fun h3 t3 g r f=>?_)
 refine zEEEA z6 fun o es ep ho rr=>?_
 refine zEA (g.keep _ o ho z3 nOwn) fun _ q _=>?_
 have hb:c.hb.get? C=none:=hr1.dead (s:=Sh s h' t1) dC
 refine ⟨m,⟨_,es,ep,q,rr⟩,fun h4 sb=>ct ρ' δ' h4 t3 ?_ (r.of_ext sb.extBut z3 hb) (f.of_ext sb.extBut nOwn)⟩
 exact g1.any.trans ((z1.any.trans g).iter sb.extBut dC)
theorem nG {v:PySem.Expr} {gs:List PySem.Comprehension} {s:Scope} {p:Pos} {y:Str} {np:Pos} {l:Nat} {env:Env} (hk:env.scope.kind=.function) (h:wG env.kindOf (.SetComp v gs s p) y np=true):swapsWith (.SetComp v gs s p) (some (.Name y np)) l env=pure true:=by
 have b:(env.blockKind == ScopeKind.function)=true:=by unfold Env.blockKind; rw [hk]; rfl
 have h:(env.kindOf y == some .local && np.line == p.line && !(s.names.any fun q=>q.1 == y && (q.2 == .local || q.2 == .cell)))=true:=h
 show (pure (env.blockKind == ScopeKind.function && env.kindOf y == some .local && np.line == p.line && !(s.names.any fun q=>q.1 == y && (q.2 == .local || q.2 == .cell))):Sem Bool)=pure true
 rw [b,Bool.true_and,h]
theorem w4 {y:Nat} (e1:Ev c it d loc T (.ref r) T1) (hk:ed T1 r ik) (e2:Co c (.set v) T1.n [y] r ik 0 ifs d (rm (bq :: [y]) loc) (aq T1 (.set [] none)) T2):St c (.asgE x v y it ifs) d loc T (.nxt (pt loc x (.ref T1.n))) T2:=by
 intro _ env A s ρ δ Q E gX0 a ct
 refine gp fun gP gH=>?_
 refine zEEEAA gX0 fun np _ sp gR0 gN1 sw=>?_
 clear gX0
 subst gR0
 obtain ⟨v',tg,it',ifs',scope,p,rfl,m1,ns,ck,mv,mt,mi⟩:=gN1
 apply gH;clear gH
 have cf:=eQ ck
 have ml:eH? (env.kindOf (nmS x))=true:=by
  have h:(env.kindOf (nmS x) == some .local && np.line == p.line && !(scope.names.any fun q=>q.1 == nmS x && (q.2 == .local || q.2 == .cell)))=true:=sw
  rw [Bool.and_eq_true,Bool.and_eq_true] at h
  rw [eq_of_beq h.1.1]; rfl
 rw [exec_Assign_Name_used _ _ _ _ (nG a.fr.kind sw)]
 refine WB (wpAny_standAt (WB ?_))
 show wpAny _ A (do let _ ← comprehension (.SetComp v' [⟨tg,it',ifs',0⟩] scope p) scope env _ (newSet (.type "set")) false (eval it' env) (some (assign (.Name (nmS x) np) env))) _ _ s
 refine WB (wpAny_mono (wpAny_comprehension_free (use:=some (assign (.Name (nmS x) np) env)) (Q:=fun _ s'=>Q .next s') (g:=⟨tg,it',ifs',0⟩) (gs:=[]) rfl (fun x=>gC ns x) (iI (a.fr.cells cf)) cf.kind cf.loc ?_) (fun _ s' hq=>WQ (WQ hq)) fun _ _ e=>e)
 show wpAny _ _ (eval it' env) _ _ _
 refine e1 _ env A s ρ δ _ E m1 a fun ρ1 δ1 h' t1 va g1 hr1 vr1=>?_
 rw [vr1.2]
 refine gB (ck:=.set v) (s:=Sh s h' t1) (lo:=rR (bT c.w) [] [] 0) (ao:=.set [] none) (fun z=>ur z) (fun _=>⟨[],[],0,rfl,⟨Heap.get?_push_size _ rfl,rfl⟩,fun _=>rfl,fun _ z=>by cases z⟩) rfl ef ⟨v',tg,it',ifs',scope,p,rfl,mv,mt,mi⟩ cf hk e2 vr1.1 (a.go g1 hr1) ?_
 intro C ρ' δ' h2 t2 dC z1 z2 z3 z4 ⟨m,z6⟩
 have fr1:=a.fr.go g1
 have nOwn:¬ Own env C:=by
  rintro (z | ⟨y,z⟩)
  ·obtain ⟨m,q,_⟩:=fr1.ns
   exact aU (da q) dC z.symm
  ·exact aU (fr1.offC y _ z).2.2 dC rfl
 refine wpAny_assign_Name (eS (s:=Sh s h2 t2) (v:=.ref T1.n) (fr1.go z1) z2 ⟨z4,rfl⟩ ml fun h3 t3 g r f=>?_)
 refine zEEEA z6 fun o es ep ho rr=>?_
 refine zEA (g.keep _ o ho z3 nOwn) fun _ q _=>?_
 have hb:c.hb.get? C=none:=hr1.dead (s:=Sh s h' t1) dC
 refine ⟨m,⟨_,es,ep,q,rr⟩,fun h4 sb=>ct ρ' δ' h4 t3 ?_ (r.of_ext sb.extBut z3 hb) (f.of_ext sb.extBut nOwn)⟩
 exact g1.any.trans ((z1.any.trans g).iter sb.extBut dC)
theorem kK (ok:Ok c) (e1:Ev c it d loc T (.ref r) T1) (hk:ed T1 r ik) (e2:Co c (.dict k v) T1.n [x] r ik 0 ifs d (rm (bq :: [x]) loc) (aq T1 (.dict [] 0)) T2):Ev c (.dictc k v x it ifs) d loc T (.ref T1.n) T2:=by
 intro _ env A s ρ δ Q E gX0 a ct
 refine zEEEEEE gX0 fun k' v' tg it' ifs' scope gC0=>?_
 refine zEAAAAA gC0 fun p gR0 m1 ns ck mk gC1=>?_
 refine zAA gC1 fun mv mt mi=>?_
 clear gX0
 subst gR0
 have cf:=eQ ck
 rw [arm_eval_DictComp]
 refine wpAny_comprehension_free (use:=none) (g:=⟨tg,it',ifs',0⟩) (gs:=[]) rfl (fun x=>gC ns x) (iI (a.fr.cells cf)) cf.kind cf.loc ?_
 show wpAny _ _ (eval it' env) _ _ _
 refine e1 _ env A s ρ δ _ E m1 a fun ρ1 δ1 h' t1 va g1 hr1 vr1=>?_
 rw [vr1.2]
 refine gB (ck:=.dict k v) (s:=Sh s h' t1) (lo:={ cls:=.type "dict",data:=.dict #[] }) (ao:=.dict [] 0) (fun z=>wpAny_newObj_type z) (fun {n ρ H} kb=>?_) rfl codeAny_compStart_dict ⟨k',v',tg,it',ifs',scope,p,rfl,mk,mv,mt,mi⟩ cf hk e2 vr1.1 (a.go g1 hr1) (jR (s:=Sh s h' t1) hr1 (ct.go g1))
 refine ⟨beq_false_of_ne fun z=>?_,.inl ⟨[],⟨_,#[],Heap.get?_push_size _ rfl,⟨rfl,rfl,rfl⟩,rfl,fun _ he=>by simp at he,Pairs.nil,List.nodup_nil⟩,trivial⟩⟩
 refine zE ok.sysm fun ob q=>?_
 have:=kb _ _ q
 rw [← z,bo H (Nat.le_refl _)] at this
 cases this
end
section
variable {prog:Program} {w:World} {A:Around} {s:Shared}
theorem fH {R:Result→Shared→Prop} {test:PySem.Expr} {body:List Stmt} {env:Env} {E:Value→Shared→Prop} (hE:E=notedBy (model prog w) A env fun e s'=>R (.error e) s')
  (h:wpAny (model prog w) A (isTrue test env (eval test env)) (fun b s₂=>match b with
   | true=>wpAny (model prog w) A (execs body env) (fun f s₃=>match f with
     | .next | .cont=>codeAny (model prog w) A (.whileLoop test body [] env) R s₃
     | .brk=>R (.ok .next) s₃
     | .ret v=>R (.ok (.ret v)) s₃) E s₂
   | false=>R (.ok .next) s₂) E s) :
  codeAny (model prog w) A (.whileLoop test body [] env) R s:=by
 refine codeAny_of_tree ?_
 show wpAny _ A ((whileTurn test body [] env).onRaise (fun x=>do noteFrame x env; theTreesLotGoes x)) _ _ s
 refine wpAny_noted ?_
 unfold whileTurn
 subst hE
 refine WB (wpAny_mono h (fun b s₂ h₂=>?_) fun _ _ h'=>h')
 cases b with
 | false=>
  rw [if_neg Bool.false_ne_true]
  exact WB (wpAny_execs_nil (WQ h₂))
 | true=>
  rw [if_pos rfl]
  refine WB (wpAny_mono h₂ (fun f s₃ h₃=>?_) fun _ _ h'=>h')
  cases f with
  | next=>exact WQ ⟨rfl,h₃⟩
  | cont=>exact WQ ⟨rfl,h₃⟩
  | brk=>exact WQ h₃
  | ret v=>exact WQ h₃
end
noncomputable def Wl (c:Cx) (t:PE) (b:PSs) (d:Nat) (loc:Loc) (T:Hp) (f:Fl) (T':Hp):Prop:=
 ∀ (test:PySem.Expr) (body:List Stmt) (env:Env) (A:Around) (s:Shared) (ρ δ:Nat→Addr) (R:Result→Shared→Prop),ME t env.kindOf test→MSs b env.kindOf body→At c d loc T env A s ρ δ→Kf c env s ρ δ T T' f (fun f s'=>R (.ok f) s')→codeAny (model c.prog c.w) A (.whileLoop test body [] env) R s
section
variable {c:Cx} {d:Nat} {loc loc1:Loc} {T T1 T2 T3:Hp} {t:PE} {b hb:PSs} {f:Fl} {v:AV} {cl x:Nat}
theorem xD (e1:Tr c t d loc T false T1):Wl c t b d loc T (.nxt loc) T1:=by
 intro test body env A s ρ δ R me mb a ct
 exact fH rfl (e1 _ env A s ρ δ _ _ me a fun ρ1 δ1 h' t1 g1 hr1=>ct ρ1 δ1 h' t1 g1.any hr1 (a.fr.go g1))
theorem qz (e1:Tr c t d loc T true T1) (e2:Ex c b d loc T1 (.nxt loc1) T2) (e3:Wl c t b d loc1 T2 f T3):Wl c t b d loc T f T3:=by
 intro test body env A s ρ δ R me mb a ct
 refine fH rfl (e1 _ env A s ρ δ _ _ me a fun ρ1 δ1 h' t1 g1 hr1=>?_)
 refine e2 _ env A (Sh s h' t1) ρ1 δ1 _ _ mb (a.go g1 hr1) fun ρ2 δ2 h2 t2 g2 hr2 fr2=>?_
 exact e3 _ _ env A (Sh s h2 t2) ρ2 δ2 R me mb ⟨fr2,hr2,a.ro,a.fgo (g1.any.trans g2)⟩ (ct.go (g1.any.trans g2))
theorem xQ (e1:Tr c t d loc T true T1) (e2:Ex c b d loc T1 (.ret v) T2):Wl c t b d loc T (.ret v) T2:=by
 intro test body env A s ρ δ R me mb a ct
 refine fH rfl (e1 _ env A s ρ δ _ _ me a fun ρ1 δ1 h' t1 g1 hr1=>?_)
 exact e2 _ env A (Sh s h' t1) ρ1 δ1 _ _ mb (a.go g1 hr1) fun ρ2 δ2 h2 t2 val g2 hr2 vr2=>ct ρ2 δ2 h2 t2 val (g1.any.trans g2) hr2 vr2
theorem vP (e1:Wl c t b d loc T f T1):St c (.whl t b) d loc T f T1:=by
 intro _ env A s ρ δ Q E gX0 a ct
 refine zEEEAA gX0 fun t' b' p gR0 mt mb=>?_
 clear gX0
 subst gR0
 exact wpAny_While (e1 _ _ env A s ρ δ _ mt mb a ct)
theorem vn (e1:Ex c b d loc T f T1):St c (.try b cl x hb) d loc T f T1:=by
 intro _ env A s ρ δ Q E gX0 a ct
 refine zEEEEEA gX0 fun b' np h' hp p gR0 gC0=>?_
 refine zA gC0 fun mb _=>?_
 clear gX0
 subst gR0
 refine wpAny_Try_except (e1 _ env A s ρ δ _ _ mb a ?_)
 cases f with
 | nxt l=>exact fun ρ' δ' h' t' g r f=>wpAny_execs_nil (ct ρ' δ' h' t' g r f)
 | ret v=>exact ct
end
section
variable {prog:Program} {w:World} {A:Around} {s:Shared} {env:Env} {Q E:Value→Shared→Prop}
theorem hU {value:PySem.Expr} {lower upper:Option PySem.Expr} {p pos:Pos}
  (h:wpAny (model prog w) A (eval value env) (fun o s₁=>wpAny (model prog w) A (evalPart lower env) (fun vl s₂=>wpAny (model prog w) A (evalPart upper env) (fun vu s₃=>
   ∃ T id,typeLookup (.type T) "__getitem__" = pure (some (.builtin id))∧Shared.TypeIs { s₃ with heap:=s₃.heap.push { cls:=.type "slice",data:=.fields #[vl,vu,.none] } } o T ∧
    wpAny (model prog w) A (getItem o (.ref s₃.heap.objs.size)) Q E { s₃ with heap:=s₃.heap.push { cls:=.type "slice",data:=.fields #[vl,vu,.none] } }) E s₂) E s₁) E s) :
  wpAny (model prog w) A (eval (.Subscript value (.Slice lower upper none p) pos) env) Q E s:=by
 rw [eval_Subscript]
 refine WB (wpAny_mono h (fun o s₁ h₁=>WB (WH (wpAny_Slice (wpAny_mono h₁ (fun vl s₂ h₂=>wpAny_mono h₂ (fun vu s₃ h₃=>?_) fun _ _ x=>x) fun _ _ x=>x)))) fun _ _ x=>x)
 rw [evalPart_none]
 refine WQ ?_
 refine WB (wpAny_standAt ?_)
 refine zEEAA h₃ fun T id hl hT hg=>?_
 refine WB ?_
 rw [getitemInPython_of_ne hT.not_modules]
 refine WB (wpAny_specialOf hT hl ?_)
 have fin:=fun (i:Value) (hi:wpAny (model prog w) A (getItem o i) Q E { s₃ with heap:=s₃.heap.push { cls:=.type "slice",data:=.fields #[vl,vu,.none] } })=>
  (WB (wpAny_operating (vs:=[i,o]) (wpAny_mono hi (fun r s₃ h₃=>WB (wpAny_letTemporaryGo (base:=value) (o:=o) (WQ h₃))) fun _ _ x=>x)):wpAny (model prog w) A (subscripted (.Slice lower upper none p) false o i >>= fun r=>letTemporaryGo value o r >>= fun _=>pure r) Q E _)
 first
  | exact WQ (fin _ hg)
  | exact fin _ hg
end
noncomputable def cut (n:Nat) (i:Int):Nat:=match i with
 | .ofNat k=>min k n
 | .negSucc k=>n - (k+1)
noncomputable def jA {α:Type} (up:Bool) (i:Int) (l:List α):List α:=cond up (l.take (cut l.length i)) (l.drop (cut l.length i))
theorem gn (n:Nat) (i:Int):max 0 (min (if i<0 then i+(n:Int) else i) n)=((cut n i:Nat):Int):=by
 cases i with
 | ofNat k=>
  rw [if_neg (show ¬ (Int.ofNat k<0) from Int.not_lt.mpr (Int.natCast_nonneg k))]
  show max 0 (min (k:Int) n)=((min k n:Nat):Int)
  rcases Nat.le_total k n with h | h
  ·rw [Nat.min_eq_left h,Int.min_eq_left (Int.ofNat_le.mpr h)]; exact Int.max_eq_right (Int.natCast_nonneg _)
  ·rw [Nat.min_eq_right h,Int.min_eq_right (Int.ofNat_le.mpr h)]; exact Int.max_eq_right (Int.natCast_nonneg _)
 | negSucc k=>
  rw [if_pos (Int.negSucc_lt_zero k)]
  show max 0 (min (Int.subNatNat n (k+1)) n)=((n - (k+1):Nat):Int)
  rcases Nat.lt_or_ge n (k+1) with h | h
  ·rw [Int.subNatNat_of_lt h,Nat.sub_eq_zero_of_le (Nat.le_of_lt h)]
   exact Int.max_eq_left (Int.le_trans (Int.min_le_left _ _) (Int.le_of_lt (Int.negSucc_lt_zero _)))
  ·rw [Int.subNatNat_of_le h,Int.min_eq_left (Int.ofNat_le.mpr (Nat.sub_le _ _))]
   exact Int.max_eq_right (Int.natCast_nonneg _)
theorem v3 (n:Nat) (i:Int):cut n i≤n:=by
 cases i with
 | ofNat k=>exact Nat.min_le_right k n
 | negSucc k=>exact Nat.sub_le n (k+1)
theorem vR {α:Type} (k:Nat) (l:List α):jA true (k:Int) l=l.take k:=by
 show l.take (min k l.length)=_
 by_cases h:k≤l.length
 ·rw [Nat.min_eq_left h]
 ·rw [Nat.min_eq_right (Nat.le_of_not_le h),List.take_length,List.take_of_length_le (Nat.le_of_not_le h)]
theorem nC {α:Type} (k:Nat) (l:List α):jA false (k:Int) l=l.drop k:=by
 show l.drop (min k l.length)=_
 by_cases h:k≤l.length
 ·rw [Nat.min_eq_left h]
 ·rw [Nat.min_eq_right (Nat.le_of_not_le h),List.drop_length,List.drop_eq_nil_of_le (Nat.le_of_not_le h)]
theorem sL (items:Array Value) (up:Bool) (i:Int):slicePick items (cond up none (some i)) (cond up (some i) none) none=(jA up i items.toList).toArray:=by
 cases up with
 | true=>
  have e:sliceBounds none (some i) none items.size=(((0:Nat):Int),((cut items.size i:Nat):Int),1):=by
   simp only [sliceBounds,Option.getD_none,show (1:Int) > 0 by decide,if_true]
   rw [gn]; rfl
  show slicePick items none (some i) none=_
  unfold slicePick
  rw [e]
  simp only [sliceRange_one,pick_run]
  simp [jA]
 | false=>
  have e:sliceBounds (some i) none none items.size=(((cut items.size i:Nat):Int),((items.size:Nat):Int),1):=by
   simp only [sliceBounds,Option.getD_none,show (1:Int) > 0 by decide,if_true]
   rw [gn]
  show slicePick items (some i) none none=_
  unfold slicePick
  rw [e]
  simp only [sliceRange_one,pick_run]
  rw [List.take_of_length_le (by simp)]
  simp [jA]
theorem eE (x:List Nat):(S x).length=x.length:=by simp [Str.length]
theorem qF (x:List Nat) (l u:Option Int) (a b:Nat) (hb:b≤x.length) (e:Builtin.Str.strSliceIndices l u 1 (S x).length=(List.range (b - a)).map (a+·)):Txt.slice (S x) l u=S ((x.drop a).take (b - a)):=by
 unfold Txt.slice
 rw [e]
 split
 ·rename_i q
  simp only [beq_self_eq_true,Bool.true_and,LQ,List.length_range,beq_iff_eq,eE] at q
  rcases Nat.eq_zero_or_pos x.length with z | z
  ·have:x=[]:=List.eq_nil_of_length_eq_zero z
   subst this; simp
  ·have:a=0:=by omega
   subst this
   rw [List.drop_zero,List.take_of_length_le (by omega)]
 ·show (⟨_⟩:Str)=⟨_⟩
  rw [pick_run]
theorem uO (x:List Nat) (up:Bool) (i:Int):Txt.slice (S x) (cond up none (some i)) (cond up (some i) none)=S (jA up i x):=by
 cases up with
 | true=>
  show Txt.slice (S x) none (some i)=S (x.take _)
  rw [qF x none (some i) 0 (cut x.length i) (v3 _ _) ?_]
  ·simp
  ·rw [eE]
   unfold Builtin.Str.strSliceIndices
   simp only [show (1:Int) > 0 by decide,if_true]
   rw [gn]
   exact sliceRange_one 0 _
 | false=>
  show Txt.slice (S x) (some i) none=S (x.drop _)
  rw [qF x (some i) none (cut x.length i) x.length (Nat.le_refl _) ?_]
  ·rw [List.take_of_length_le (by simp)]
  ·rw [eE]
   unfold Builtin.Str.strSliceIndices
   simp only [show (1:Int) > 0 by decide,if_true]
   rw [gn,sliceRange_one]
theorem VRs.take {n:Nat} {ρ:Nat→Addr} {a:List AV} {v:List Value} (k:Nat) (h:VRs n ρ a v):VRs n ρ (a.take k) (v.take k):=by
 induction k generalizing a v with
 | zero=>trivial
 | succ k ih=>cases a with
  | nil=>cases v with
   | nil=>trivial
   | cons=>exact h.elim
  | cons x a=>cases v with
   | nil=>exact h.elim
   | cons y v=>exact ⟨h.1,ih h.2⟩
theorem VRs.cut {n:Nat} {ρ:Nat→Addr} {a:List AV} {v:List Value} (up:Bool) (i:Int) (h:VRs n ρ a v):VRs n ρ (jA up i a) (jA up i v):=by
 cases up with
 | true=>show VRs n ρ (a.take _) (v.take _); rw [h.len]; exact h.take _
 | false=>show VRs n ρ (a.drop _) (v.drop _); rw [h.len]; exact h.drop _
noncomputable def slA (up:Bool) (vb:Value):Array Value:=cond up #[.none,vb,.none] #[vb,.none,.none]
noncomputable abbrev slS (s:Shared) (up:Bool) (vb:Value):Shared:={ s with heap:=s.heap.push { cls:=.type "slice",data:=.fields (slA up vb) } }
noncomputable def Sl (c:Cx) (up:Bool) (a b:AV) (T:Hp) (v:AV) (T':Hp):Prop:=
 ∀ (A:Around) (s:Shared) (ρ δ:Nat→Addr) (va vb:Value) (Q E:Value→Shared→Prop),HR c ρ δ T T.n s.heap→VR T.n ρ a va→VR T.n ρ b vb→Kv c s ρ δ T T' v Q →
  ∃ Tn id,typeLookup (.type Tn) "__getitem__" = pure (some (.builtin id))∧(slS s up vb).TypeIs va Tn∧wpAny (model c.prog c.w) A (getItem va (.ref s.heap.objs.size)) Q E (slS s up vb)
section
variable {c:Cx} {d:Nat} {loc:Loc} {T T1 T2 T3:Hp} {a b v:AV} {o i:PE} {up:Bool} {r:Nat} {xs ys:List AV} {k:Int} {l m:List Nat} {ao:AO}
theorem eM (e1:Ev c o d loc T a T1) (e2:Ev c i d loc T1 b T2) (e3:Sl c up a b T2 v T3):Ev c (.slice o up i) d loc T v T3:=by
 intro _ env A s ρ δ Q E gX0 at' ct
 refine zEEEEAA gX0 fun o' i' sp p gR0 mo mi=>?_
 clear gX0
 subst gR0
 have k:∀ ρ1 δ1 h1 t1 va,Go c No ρ δ T.n s.heap ρ1 δ1 T1.n h1→HR c ρ1 δ1 T1 T1.n h1→VR T1.n ρ1 a va→wpAny (model c.prog c.w) A (eval i' env) (fun vb s₂=>∃ Tn id,typeLookup (.type Tn) "__getitem__" = pure (some (.builtin id))∧(slS s₂ up vb).TypeIs va Tn∧wpAny (model c.prog c.w) A (getItem va (.ref s₂.heap.objs.size)) Q E (slS s₂ up vb)) E (Sh s h1 t1):=
  fun ρ1 δ1 h1 t1 va g1 hr1 vr1=>e2 _ env A (Sh s h1 t1) ρ1 δ1 _ E mi (at'.go g1 hr1) fun ρ2 δ2 h2 t2 vb g2 hr2 vr2=>e3 A (Sh s h2 t2) ρ2 δ2 va vb Q E hr2 (g2.vr vr1) vr2 (ct.go (g1.trans g2))
 cases up with
 | true=>exact hU (e1 _ env A s ρ δ _ E mo at' fun ρ1 δ1 h1 t1 va g1 hr1 vr1=>WQ (k ρ1 δ1 h1 t1 va g1 hr1 vr1))
 | false=>exact hU (e1 _ env A s ρ δ _ E mo at' fun ρ1 δ1 h1 t1 va g1 hr1 vr1=>wpAny_mono (k ρ1 δ1 h1 t1 va g1 hr1 vr1) (fun _ _ z=>WQ z) fun _ _ z=>z)
theorem qx (q:l.length<4000) (e:jA up k l=m):Sl c up (.str l) (.int k) T (.str m) T:=by
 intro A s ρ δ va vb Q E hr ra rb ct
 refine zE ra fun t gR0=>?_
 subst gR0
 refine zE rb fun ti gR0=>?_
 subst gR0
 have kp:∀ ob b o,s.heap.get? b=some o→(s.heap.push ob).get? b=some o:=fun ob b o e=>Heap.get?_push_of_some _ e
 have hz:(S l).length≤sizeLine:=by rw [eE]; exact szl q
 refine ⟨"str",_,PySem.F.slot_str_getitem.lookup,typeIs_str _ _ _,?_⟩
 have e:=e▸uO l up k
 cases up with
 | true=>
  refine wpAny_getItem_str_slice (l:=none) (u:=some (k,ti)) (st:=none) ⟨_,Heap.get?_push_size _ rfl,rfl,rfl⟩ rfl (post_val_or_str ⟨Nat.le_trans (Txt.slice_le (S l) none (some k)) hz,fun t' k=>?_⟩)
  exact ct ρ δ _ k _ (Go.of_keeps (kp _)) (hr.of_keeps (kp _)) ⟨t',congrArg (Value.str · t') e⟩
 | false=>
  refine wpAny_getItem_str_slice (l:=some (k,ti)) (u:=none) (st:=none) ⟨_,Heap.get?_push_size _ rfl,rfl,rfl⟩ rfl (post_val_or_str ⟨Nat.le_trans (Txt.slice_le (S l) (some k) none) hz,fun t' k=>?_⟩)
  exact ct ρ δ _ k _ (Go.of_keeps (kp _)) (hr.of_keeps (kp _)) ⟨t',congrArg (Value.str · t') e⟩
theorem Kv.far {s:Shared} {ρ δ:Nat→Addr} {Q:Value→Shared→Prop} {ob1 ob2:Obj} {t:Nat} (ct:Kv c s ρ δ T (aq T ao) (.ref T.n) Q) (hr:HR c ρ δ T T.n s.heap) (hf:ob2.isFreed=false)
  (or:OR c (T.n+1) (ext ρ T.n (s.heap.push ob1).objs.size) ((s.heap.push ob1).push ob2) (s.heap.push ob1).objs.size (s.heap.push ob1).objs.size ao):Q (.ref (s.heap.push ob1).objs.size) (Sh s ((s.heap.push ob1).push ob2) t):=by
 have dead:s.heap.get? (s.heap.push ob1).objs.size=none:=bo _ (by rw [Heap.size_push]; exact Nat.le_succ _)
 have lv:bl ((s.heap.push ob1).push ob2) (s.heap.push ob1).objs.size:=⟨_,Heap.get?_push_size _ hf⟩
 refine zA (hr.grow (X:=No) (ce T ao) dead dead lv lv (fun b o e=>Heap.get?_push_of_some _ (Heap.get?_push_of_some _ e)) or) fun r1 g1=>?_
 exact ct _ _ _ t _ g1 r1 ⟨Nat.lt_succ_self _,by rw [bD]⟩
theorem wt (ho:T.get r=some (.list xs)) (q:xs.length<4000) (e:jA up k xs=ys):Sl c up (.ref r) (.int k) T (.ref T.n) (aq T (.list ys)):=by
 intro A s ρ δ va vb Q E hr ra rb ct
 refine zE rb fun ti gR0=>?_
 subst gR0
 refine zAEEA (hr.obj _ _ ho) fun lt vals kk h1 h2=>?_
 have hl:s.heap.IsList (ρ r) vals.toArray:=⟨_,h1,rfl,kk,rfl⟩
 rw [h2.len] at q
 have hz:vals.toArray.size≤sizeLine:=by rw [List.size_toArray]; exact szl (by first | assumption | omega)
 have hc:=e▸h2.cut up k
 have e':=sL vals.toArray up k
 rw [ra.2]
 refine ⟨"list",_,list_getitem_lookup,(hl.push _).typeIs,?_⟩
 cases up with
 | true=>
  refine wpAny_getItem_list_slice (hl.push _) (Heap.IsSliceOf.new ..) .none (.int k ti) .none (by simp) ?_ hz
  dsimp only
  rw [show slicePick vals.toArray none (some k) none=_ from e']
  exact ct.far (s:=s) (t:=s.toks) hr rfl ⟨_,0,Heap.get?_push_size _ rfl,co hc⟩
 | false=>
  refine wpAny_getItem_list_slice (hl.push _) (Heap.IsSliceOf.new ..) (.int k ti) .none .none (by simp) ?_ hz
  dsimp only
  rw [show slicePick vals.toArray (some k) none none=_ from e']
  exact ct.far (s:=s) (t:=s.toks) hr rfl ⟨_,0,Heap.get?_push_size _ rfl,co hc⟩
theorem oC {k:Nat} (ho:T.get r=some (.tuple xs)) (q:xs.length<4000) (q0:1≤k) (q1:k≤xs.length):Sl c false (.ref r) (.int (k:Int)) T (.ref T.n) (aq T (.tuple (xs.drop k))):=by
 intro A s ρ δ va vb Q E hr ra rb ct
 refine zE rb fun ti gR0=>?_
 subst gR0
 refine zAEEA (hr.obj _ _ ho) fun lt vals kk h1 h2=>?_
 rw [h2.len] at q q1
 have hz:vals.toArray.size≤sizeLine:=by rw [List.size_toArray]; exact szl (by first | assumption | omega)
 have ht:∀ ob,IsTup (s.heap.push ob) (ρ r) vals.toArray:=fun ob=>⟨_,Heap.get?_push_of_some _ h1,rfl,kk,rfl⟩
 rw [ra.2]
 refine ⟨"tuple",_,F.slot_tuple_getitem.lookup,⟨_,Heap.get?_push_of_some _ h1,rfl⟩,?_⟩
 refine getItem_tuple_from (a:=k) (u:=ti) (ht _) (Heap.IsSliceOf.new ..) (by omega) (by simpa using q1) ?_ hz
 refine ct.far (s:=s) (t:=s.toks) hr rfl ⟨_,0,Heap.get?_push_size _ rfl,?_⟩
 have:=h2.drop k
 simpa using co this
end
section
variable {c:Cx} {T:Hp} {x y:Int} {l m:List Nat} {k r r':Nat} {xs ys:List AV}
theorem cE:Bi c .add (.int x) (.int y) T (.int (x+y)) T:=by
 intro A s ρ δ _ _ Q E hr gX0 gX1 ct
 refine zE gX0 fun t gR0=>?_
 clear gX0
 subst gR0
 refine zE gX1 fun u gR0=>?_
 clear gX1
 subst gR0
 exact P.add_int (ct ρ δ s.heap _ _ Go.refl hr ⟨_,rfl⟩)
theorem rS (h1:0<y):Bi c .mod (.int x) (.int y) T (.int (Int.fmod x y)) T:=by
 intro A s ρ δ _ _ Q E hr gX0 gX1 ct
 refine zE gX0 fun t gR0=>?_
 clear gX0
 subst gR0
 refine zE gX1 fun u gR0=>?_
 clear gX1
 subst gR0
 exact mod_int' (by omega) (ct ρ δ s.heap _ _ Go.refl hr ⟨_,rfl⟩)
theorem jr (h1:0<y) (h2:y<1000000):Bi c .fdiv (.int x) (.int y) T (.int (Int.fdiv x y)) T:=by
 intro A s ρ δ _ _ Q E hr gX0 gX1 ct
 refine zE gX0 fun t gR0=>?_
 clear gX0
 subst gR0
 refine zE gX1 fun u gR0=>?_
 clear gX1
 subst gR0
 exact floordiv_int (by omega) (ct ρ δ s.heap _ _ Go.refl hr ⟨_,rfl⟩) (.inl (PyProof.noPylong_small (by omega)))
theorem fO (h:l.length+m.length<4000):Bi c .add (.str l) (.str m) T (.str (l ++ m)) T:=by
 intro A s ρ δ _ _ Q E hr gX0 gX1 ct
 refine zE gX0 fun t gR0=>?_
 clear gX0
 subst gR0
 refine zE gX1 fun u gR0=>?_
 clear gX1
 subst gR0
 refine PyProof.Rows.add_str (fun t' tk=>ct ρ δ s.heap tk _ Go.refl hr ⟨t',?_⟩) ?_
 ·show Value.str (⟨l.toArray ++ m.toArray⟩:Str) t'=Value.str ⟨(l ++ m).toArray⟩ t'
  rw [List.append_toArray]
 ·rw [eE,eE]; exact szl h
theorem wR (h1:T.get r=some (.list xs)) (h2:T.get r'=some (.list ys)) (h:xs.length+ys.length<4000):Bi c .add (.ref r) (.ref r') T (.ref T.n) (aq T (.list (xs ++ ys))):=by
 intro A s ρ δ va vb Q E hr ra rb ct
 refine zAEEA (hr.obj _ _ h1) fun _ vs k1 q1 w1=>?_
 refine zAEEA (hr.obj _ _ h2) fun _ us k2 q2 w2=>?_
 rw [w1.len,w2.len] at h
 rw [ra.2,rb.2]
 refine P.add_list q1 q2 ?_ (by simp only [List.size_toArray]; exact szl h)
 rw [List.append_toArray]
 exact ct.push (t:=s.toks) hr rfl ⟨vs ++ us,0,Heap.get?_push_size _ rfl,co (w1.append w2)⟩
theorem wa (h1:T.get r=some (.tuple xs)) (h2:T.get r'=some (.tuple ys)) (h:xs.length+ys.length<4000) (n1:xs≠[]) (n2:ys≠[]):Bi c .add (.ref r) (.ref r') T (.ref T.n) (aq T (.tuple (xs ++ ys))):=by
 intro A s ρ δ va vb Q E hr ra rb ct
 refine zAEEA (hr.obj _ _ h1) fun _ vs k1 q1 w1=>?_
 refine zAEEA (hr.obj _ _ h2) fun _ us k2 q2 w2=>?_
 rw [w1.len,w2.len] at h
 have ne:∀ {as:List AV} {bs:List Value},as≠[]→VRs T.n ρ as bs→¬ bs.toArray.isEmpty=true:=fun {as bs} n w z=>n (List.eq_nil_of_length_eq_zero (by rw [w.len]; simpa using z))
 rw [ra.2,rb.2]
 refine P.add_tuple q1 q2 (ne n1 w1) (ne n2 w2) ?_ (by simp only [List.size_toArray]; exact szl h)
 rw [List.append_toArray]
 exact ct.push (t:=s.toks) hr rfl ⟨vs ++ us,0,Heap.get?_push_size _ rfl,co (w1.append w2)⟩
end
noncomputable def Ty.eq (a b:Ty):Bool:=decide (a.nm=b.nm)
noncomputable def sq (a b:AV):Bool:=match b with
 | .int y=>(match a with | .int x=>decide (x=y) | _=>false)
 | .str y=>(match a with | .str x=>decide (x=y) | _=>false)
 | .typ y=>(match a with | .typ x=>x.eq y | _=>false)
 | _=>false
noncomputable def kin (a b:AV):Bool:=match b with
 | .int _=>(match a with | .int _=>true | _=>false)
 | .str _=>(match a with | .str _=>true | _=>false)
 | .typ _=>(match a with | .typ _=>true | _=>false)
 | _=>false
theorem jU {P:AV→AV→Prop} {a b:AV} (k:kin a b=true) (h1:∀ x y,P (.int x) (.int y)) (h2:∀ x y,P (.str x) (.str y)) (h3:∀ x y,P (.typ x) (.typ y)):P a b:=by
 cases b with
 | int y=>cases a with
  | int x=>exact h1 x y
  | _=>cases k
 | str y=>cases a with
  | str x=>exact h2 x y
  | _=>cases k
 | typ y=>cases a with
  | typ x=>exact h3 x y
  | _=>cases k
 | _=>cases k
theorem ru (x y:Int):decide (x=y)=(x == y):=by rw [Bool.eq_iff_iff,beq_iff_eq,decide_eq_true_eq]
theorem qr (x y:List Nat):decide (x=y)=(S x == S y):=by
 rw [Bool.eq_iff_iff,beq_iff_eq,decide_eq_true_eq]
 exact ⟨fun h=>by rw [h],fun h=>qG h⟩
theorem Ty.meta (t:Ty) (s:Shared):s.TypeIs (.type t.nm) "type" := by
 cases t <;> (show typeOf _=_; kernel_rfl)
theorem Ty.nm_eq (a b:Ty):(Value.type a.nm == Value.type b.nm)=a.eq b:=by cases a <;> cases b <;> kernel_rfl
theorem qe (a b:Ty) (A:Around) (s:Shared):SeqAt.EqAt A s (.type a.nm) (.type b.nm) (a.eq b):=by
 cases q:a.eq b with
 | true=>rw [of_decide_eq_true q]; exact SeqAt.EqAt.same _
 | false=>
  intro prog w E Q h
  unfold eqBool
  refine WH ?_
  refine wpAny_ite_split (fun hab=>absurd hab (by rw [Ty.nm_eq,q]; exact Bool.false_ne_true)) (fun _=>?_)
  exact WB (TypeEq.eq_type_other (fun s'=>a.meta s') (fun s'=>b.meta s') (by rw [Ty.nm_eq,q]) (wpAny_truthy_bool h))
theorem xI {n:Nat} {ρ:Nat→Addr} {a b:AV} {va vb:Value} {A:Around} {s:Shared} (k:kin a b=true):VR n ρ a va→VR n ρ b vb→SeqAt.EqAt A s va vb (sq a b):=by
 refine jU (P:=fun a b=>VR n ρ a va→VR n ρ b vb→SeqAt.EqAt A s va vb (sq a b)) k ?_ ?_ ?_
 ·rintro x y ⟨_,rfl⟩ ⟨_,rfl⟩
  show SeqAt.EqAt _ _ _ _ (decide _); rw [ru]; exact SeqAt.EqAt.int_int _ _ _ _
 ·rintro x y ⟨_,rfl⟩ ⟨_,rfl⟩
  show SeqAt.EqAt _ _ _ _ (decide _); rw [qr]; exact SeqAt.EqAt.str_str _ _ _ _
 ·intro x y ra rb
  rw [ra,rb]; exact qe _ _ _ _
noncomputable def Eqt (c:Cx) (T:Hp) (f:Nat) (a b:AV):Prop:=
 ∀ (ρ δ:Nat→Addr) (s:Shared) (A:Around) (va vb:Value),HR c ρ δ T T.n s.heap→A.units+f<cLine→VR T.n ρ a va→VR T.n ρ b vb→SeqAt.EqAt A s va vb true
noncomputable def kY (c:Cx) (T:Hp) (f:Nat) (xs ys:List AV):Prop:=xs.length=ys.length∧∀ (j:Nat) (x y:AV),xs[j]?=some x→ys[j]?=some y→Eqt c T f x y
theorem VRs.get {n:Nat} {ρ:Nat→Addr} {a:List AV} {v:List Value} (h:VRs n ρ a v) {i:Nat} (hi:i<v.toArray.size):∃ x,a[i]?=some x∧VR n ρ x v.toArray[i]:=by
 have hl:i<a.length:=by rw [h.len]; simpa using hi
 refine zEA (h.at (List.getElem?_eq_getElem hl)) fun y h1 h2=>?_
 refine ⟨_,List.getElem?_eq_getElem hl,?_⟩
 have:v.toArray[i]=y:=by
  have q:i<v.length:=by simpa using hi
  rw [List.getElem?_eq_getElem q] at h1
  simpa using Option.some.inj h1
 rw [this]; exact h2
section
variable {c:Cx} {T:Hp} {f:Nat} {a b:AV} {xs ys:List AV} {r r':Nat} {t:Bool} {es:List (AV × AV)} {ep:Nat}
theorem kJ:Eqt c T f a a:=by
 intro ρ δ s A va vb hr hu ra rb
 cases a with
 | int i=>obtain ⟨t,rfl⟩:=ra; obtain ⟨u,rfl⟩:=rb; have:=SeqAt.EqAt.int_int (A:=A) (s:=s) i t i u; rwa [beq_self_eq_true] at this
 | str l=>obtain ⟨t,rfl⟩:=ra; obtain ⟨u,rfl⟩:=rb; have:=SeqAt.EqAt.str_str (A:=A) (s:=s) (S l) t (S l) u; rwa [beq_self_eq_true] at this
 | ref r=>rw [ra.2,rb.2]; exact SeqAt.EqAt.same _
 | _=>cases ra; cases rb; exact SeqAt.EqAt.same _
theorem lh:kY c T f [] []:=⟨rfl,fun j x y h=>(by simp at h)⟩
theorem gj (h1:Eqt c T f a b) (h2:kY c T f xs ys):kY c T f (a :: xs) (b :: ys):=
 ⟨congrArg (·+1) h2.1,fun j x y q1 q2=>by
  cases j with
  | zero=>cases q1; cases q2; exact h1
  | succ j=>exact h2.2 j x y q1 q2⟩
theorem mY:kY c T f xs xs:=⟨rfl,fun j x y q1 q2=>by rw [q1] at q2; cases q2; exact kJ⟩
theorem wf {A:Around} {s:Shared} {ρ δ:Nat→Addr} (q:kY c T f xs ys) (o:(T.get r=some (.tuple xs)∧T.get r'=some (.tuple ys))∨(T.get r=some (.list xs)∧T.get r'=some (.list ys))) (hr:HR c ρ δ T T.n s.heap) (hu:A.units+(f+1)<cLine) :
  SeqAt.RcAt A s (.ref (ρ r)) (.ref (ρ r')) true∧SeqAt.RcNeAt A s (.ref (ρ r)) (.ref (ρ r')) false:=by
 have hu1:A.units<cLine:=Nat.lt_of_le_of_lt (Nat.le_add_right _ _) hu
 have hu2:A.in1.units+f<cLine:=by show A.units+1+f<cLine; rw [Nat.add_right_comm]; exact hu
 have each:∀ {vs us:List Value},VRs T.n ρ xs vs→VRs T.n ρ ys us→∀ j (h1:j<vs.toArray.size) (h2:j<us.toArray.size),SeqAt.EqAt A.in1 s vs.toArray[j] us.toArray[j] true:=fun w1 w2 j g1 g2=>by
  refine zEA (w1.get g1) fun a q1 r1=>?_
  refine zEA (w2.get g2) fun b q2 r2=>?_
  exact q.2 j a b q1 q2 ρ δ s _ _ _ hr hu2 r1 r2
 rcases o with ⟨h1,h2⟩ | ⟨h1,h2⟩
 ·obtain ⟨vs,k,p1,w1⟩:=(hr.obj _ _ h1).2
  refine zEEA ((hr.obj _ _ h2).2) fun us k' p2 w2=>?_
  have i1:s.heap.IsTuple (ρ r) vs.toArray:=⟨_,p1,rfl,k,rfl⟩
  have i2:s.heap.IsTuple (ρ r') us.toArray:=⟨_,p2,rfl,k',rfl⟩
  have e:vs.toArray.size=us.toArray.size:=by rw [List.size_toArray,List.size_toArray,← w1.len,← w2.len]; exact q.1
  have a1:=SeqAt.RcAt.tuples i1 i2 hu1 (each w1 w2)
  have a2:=SeqAt.RcNeAt.tuples i1 i2 hu1 (each w1 w2)
  rw [show ((List.range (min vs.toArray.size us.toArray.size)).all (fun _=>true) && vs.toArray.size == us.toArray.size)=true by rw [e]; simp] at a1 a2
  exact ⟨a1,a2⟩
 ·obtain ⟨vs,k,p1,w1⟩:=(hr.obj _ _ h1).2
  refine zEEA ((hr.obj _ _ h2).2) fun us k' p2 w2=>?_
  have i1:s.heap.IsList (ρ r) vs.toArray:=⟨_,p1,rfl,k,rfl⟩
  have i2:s.heap.IsList (ρ r') us.toArray:=⟨_,p2,rfl,k',rfl⟩
  have e:vs.toArray.size=us.toArray.size:=by rw [List.size_toArray,List.size_toArray,← w1.len,← w2.len]; exact q.1
  have a1:=SeqAt.RcAt.lists i1 i2 e hu1 (each w1 w2)
  have a2:=SeqAt.RcNeAt.lists i1 i2 e hu1 (each w1 w2)
  rw [show (List.range vs.toArray.size).all (fun _=>true)=true by simp] at a1 a2
  exact ⟨a1,a2⟩
theorem qY (o:(T.get r=some (.tuple xs)∧T.get r'=some (.tuple ys))∨(T.get r=some (.list xs)∧T.get r'=some (.list ys))) (q:kY c T f xs ys):Eqt c T (f+1) (.ref r) (.ref r'):=by
 intro ρ δ s A va vb hr hu ra rb
 by_cases e:r=r'
 ·subst e; rw [ra.2,rb.2]; exact SeqAt.EqAt.same _
 ·rw [ra.2,rb.2]
  exact SeqAt.EqAt.of_refs (hr.apart r r' ra.1 rb.1 e).1 (wf q o hr hu).1
theorem gv {d:Nat} {A:Around} (ro:fY d A) (h:f<900):A.units+(f+1)<cLine:=Nat.add_lt_add_of_lt_of_le (Nat.lt_of_le_of_lt (Nat.le_add_right _ _) ro.2.1) h
theorem xY (h:f<900) (o:(T.get r=some (.tuple xs)∧T.get r'=some (.tuple ys))∨(T.get r=some (.list xs)∧T.get r'=some (.list ys))) (q:kY c T f xs ys):Cm c .eq (.ref r) (.ref r') T true:=by
 intro d A s ρ δ va vb Q E hr ro ra rb nx
 rw [ra.2,rb.2]
 exact (wf q o hr (gv ro h)).1 _ _ _ _ (nx s.heap s.toks Go.refl hr)
theorem vg (h:f<900) (o:(T.get r=some (.tuple xs)∧T.get r'=some (.tuple ys))∨(T.get r=some (.list xs)∧T.get r'=some (.list ys))) (q:kY c T f xs ys):Cm c .ne (.ref r) (.ref r') T false:=by
 intro d A s ρ δ va vb Q E hr ro ra rb nx
 rw [ra.2,rb.2]
 exact (wf q o hr (gv ro h)).2 _ _ _ _ (nx s.heap s.toks Go.refl hr)
noncomputable def pq:AV→AV→Option Bool
 | .none,.none=>some true
 | .bool a,.bool b=>some (decide (a=b))
 | .int a,.int b=>some (decide (a=b))
 | .str a,.str b=>some (decide (a=b))
 | .none,.int _=>some false
 | .int _,.none=>some false
 | .none,.str _=>some false
 | .str _,.none=>some false
 | _,_=>none
theorem vt {n:Nat} {ρ:Nat→Addr} {va vb:Value} {A:Around} {s:Shared} (e:pq a b=some t) (ra:VR n ρ a va) (rb:VR n ρ b vb):SeqAt.RcAt A s va vb t∧SeqAt.RcNeAt A s va vb (!t):=by
 cases a with
 | none=>
  cases ra
  cases b with
  | none=>cases e; cases rb; exact ⟨SeqAt.RcAt.none_none,SeqAt.RcNeAt.none_none⟩
  | int=>cases e; obtain ⟨_,rfl⟩:=rb; exact ⟨SeqAt.RcAt.none_int _ _,SeqAt.RcNeAt.none_int _ _⟩
  | str=>cases e; obtain ⟨_,rfl⟩:=rb; exact ⟨SeqAt.RcAt.none_str _ _,SeqAt.RcNeAt.none_str _ _⟩
  | _=>cases e
 | bool x=>
  cases ra
  cases b with
  | bool y=>
   cases rb
   have a1:=SeqAt.RcAt.bool_bool (A:=A) (s:=s) x y
   have a2:=SeqAt.RcNeAt.bool_bool (A:=A) (s:=s) x y
   cases e
   cases x <;> cases y <;> exact ⟨a1,a2⟩
  | _=>cases e
 | int x=>
  refine zE ra fun _ gR0=>?_
  subst gR0
  cases b with
  | none=>cases e; cases rb; exact ⟨SeqAt.RcAt.int_none _ _,SeqAt.RcNeAt.int_none _ _⟩
  | int y=>cases e; obtain ⟨_,rfl⟩:=rb; rw [ru]; exact ⟨SeqAt.RcAt.int_int _ _ _ _,SeqAt.RcNeAt.int_int _ _ _ _⟩
  | _=>cases e
 | str x=>
  refine zE ra fun _ gR0=>?_
  subst gR0
  cases b with
  | none=>cases e; cases rb; exact ⟨SeqAt.RcAt.str_none _ _,SeqAt.RcNeAt.str_none _ _⟩
  | str y=>cases e; obtain ⟨_,rfl⟩:=rb; rw [qr]; exact ⟨SeqAt.RcAt.str_str _ _ _ _,SeqAt.RcNeAt.str_str _ _ _ _⟩
  | _=>cases e
 | _=>cases e
theorem bf (e:pq a b=some t):Cm c .eq a b T t:=by
 intro d A s ρ δ va vb Q E hr ro ra rb nx
 exact (vt e ra rb).1 _ _ _ _ (nx s.heap s.toks Go.refl hr)
theorem iu (e:pq a b=some t):Cm c .ne a b T (!t):=by
 intro d A s ρ δ va vb Q E hr ro ra rb nx
 exact (vt e ra rb).2 _ _ _ _ (nx s.heap s.toks Go.refl hr)
noncomputable def nn:AV→Bool
 | .none=>false
 | .bi _=>false
 | _=>true
theorem vM {n:Nat} {ρ:Nat→Addr} {va:Value} (e:nn a=true) (ra:VR n ρ a va):PySem.plainIs va .none=true∧va≠.none:=by
 cases a with
 | none=>cases e
 | bi=>cases e
 | int=>obtain ⟨_,rfl⟩:=ra; exact ⟨rfl,by intro z; cases z⟩
 | str=>obtain ⟨_,rfl⟩:=ra; exact ⟨rfl,by intro z; cases z⟩
 | ref=>obtain ⟨_,rfl⟩:=ra; exact ⟨rfl,by intro z; cases z⟩
 | _=>cases ra; exact ⟨rfl,by intro z; cases z⟩
theorem vO:Cm c .is .none .none T true:=by
 rintro d A s ρ δ _ _ Q E hr ro rfl rfl nx
 exact wpAny_is_self rfl (nx s.heap s.toks Go.refl hr)
theorem bv:Cm c .isnt .none .none T false:=by
 rintro d A s ρ δ _ _ Q E hr ro rfl rfl nx
 exact wpAny_isNot_self rfl (nx s.heap s.toks Go.refl hr)
theorem vL (e:nn a=true):Cm c .is a .none T false:=by
 rintro d A s ρ δ va _ Q E hr ro ra rfl nx
 refine zA (vM e ra) fun h1 h2=>?_
 exact wpAny_is_other h1 h2 (nx s.heap s.toks Go.refl hr)
theorem bN (e:nn a=true):Cm c .isnt a .none T true:=by
 rintro d A s ρ δ va _ Q E hr ro ra rfl nx
 refine zA (vM e ra) fun h1 h2=>?_
 exact wpAny_isNot_other h1 h2 (nx s.heap s.toks Go.refl hr)
theorem bX {x y:Ty}:Cm c .isnt (.typ x) (.typ y) T (!x.eq y):=by
 rintro d A s ρ δ _ _ Q E hr ro rfl rfl nx
 exact wpAny_isNot_plain rfl (by rw [Ty.nm_eq]; exact nx s.heap s.toks Go.refl hr)
variable {x y:Int}
theorem eY:Cm c .lt (.int x) (.int y) T (decide (x<y)):=by
 intro d A s ρ δ _ _ Q E hr ro gX0 gX1 nx
 refine zE gX0 fun _ gR0=>?_
 clear gX0
 subst gR0
 refine zE gX1 fun _ gR0=>?_
 clear gX1
 subst gR0
 exact P.lt_int (nx s.heap s.toks Go.refl hr)
theorem jd:Cm c .gt (.int x) (.int y) T (decide (y<x)):=by
 intro d A s ρ δ _ _ Q E hr ro gX0 gX1 nx
 refine zE gX0 fun _ gR0=>?_
 clear gX0
 subst gR0
 refine zE gX1 fun _ gR0=>?_
 clear gX1
 subst gR0
 exact P.gt_int (nx s.heap s.toks Go.refl hr)
end
noncomputable def eV (va v:Value):Bool:=match va with
 | .str p _=>(match v with | .str q _=>q == p | _=>false)
 | .int p _=>(match v with | .int q _=>q == p | _=>false)
 | _=>v == va
section
variable {c:Cx} {T:Hp} {a b:AV} {xs:List AV} {r:Nat} {t:Bool} {es:List (AV × AV)} {ep:Nat}
theorem xK {n:Nat} {ρ:Nat→Addr} {va vb:Value} (k:kin b a=true):VR n ρ a va→VR n ρ b vb→eV va vb=sq b a:=by
 refine jU (P:=fun b a=>VR n ρ a va→VR n ρ b vb→eV va vb=sq b a) k ?_ ?_ ?_
 ·rintro x y ⟨_,rfl⟩ ⟨_,rfl⟩
  exact (ru _ _).symm
 ·rintro x y ⟨_,rfl⟩ ⟨_,rfl⟩
  exact (qr _ _).symm
 ·intro x y ra rb
  rw [ra,rb]; exact Ty.nm_eq _ _
theorem qH {n:Nat} {ρ:Nat→Addr} {va:Value} (ra:VR n ρ a va) (xs:List AV):∀ vs:List Value,VRs n ρ xs vs→xs.all (kin · a)=true→(∀ y∈vs,∀ A s,SeqAt.EqAt A s y va (eV va y))∧vs.any (eV va)=xs.any (sq · a):=by
 induction xs with
 | nil=>intro vs h _; cases vs with
  | nil=>exact ⟨fun y hy=>(by cases hy),rfl⟩
  | cons=>exact h.elim
 | cons x xs ih=>intro vs h k; cases vs with
  | nil=>exact h.elim
  | cons v vs=>
   rw [List.all_cons,Bool.and_eq_true] at k
   refine zA (ih vs h.2 k.2) fun z1 z2=>?_
   have e:=xK k.1 ra h.1
   refine ⟨fun y hy A s=>?_,by rw [List.any_cons,List.any_cons,e,z2]⟩
   cases hy with
   | head=>rw [e]; exact xI k.1 h.1 ra
   | tail _ hy=>exact z1 y hy A s
theorem qZ {A:Around} {s:Shared} {n k:Nat} {ρ:Nat→Addr} {ad:Addr} {va:Value} {vs:List Value} {E:Value→Shared→Prop} {Q:Value→Shared→Prop} (hk:xs.all (kin · a)=true) (h1:s.heap.get? ad=some { cls:=.type "tuple",data:=.seq vs.toArray k }) (h2:VRs n ρ xs vs) (ra:VR n ρ a va) :
  (Q (.bool (xs.any (sq · a))) s→wpAny (model c.prog c.w) A (compareOp .In va (.ref ad)) Q E s)∧(Q (.bool (!xs.any (sq · a))) s→wpAny (model c.prog c.w) A (compareOp .NotIn va (.ref ad)) Q E s):=by
 refine zA (qH ra _ _ h2 hk) fun z1 z2=>?_
 have hl:s.heap.IsTuple ad vs.toArray:=⟨_,h1,rfl,k,rfl⟩
 have ht:vs.toArray.any (eV va)=xs.any (sq · a):=by rw [← z2]; simp
 rw [← ht]
 exact ⟨fun h=>SeqAt.in_tupleAt (eV va) hl (fun y hy=>z1 y (by simpa using hy) _ _) h,fun h=>SeqAt.notIn_tupleAt (eV va) hl (fun y hy=>z1 y (by simpa using hy) _ _) h⟩
theorem vj {A:Around} {s:Shared} {ρ δ:Nat→Addr} {va vb:Value} {E:Value→Shared→Prop} {Q:Value→Shared→Prop} (o:T.get r=some (.tuple xs)∨T.get r=some (.list xs)) (hk:xs.all (kin · a)=true) (hr:HR c ρ δ T T.n s.heap) (ra:VR T.n ρ a va) (rb:VR T.n ρ (.ref r) vb) :
  (Q (.bool (xs.any (sq · a))) s→wpAny (model c.prog c.w) A (compareOp .In va vb) Q E s)∧(Q (.bool (!xs.any (sq · a))) s→wpAny (model c.prog c.w) A (compareOp .NotIn va vb) Q E s):=by
 rw [rb.2]
 rcases o with o | o
 ·obtain ⟨vs,k,h1,h2⟩:=(hr.obj _ _ o).2
  exact qZ hk h1 h2 ra
 ·obtain ⟨vs,k,h1,h2⟩:=(hr.obj _ _ o).2
  refine zA (qH ra _ _ h2 hk) fun z1 z2=>?_
  have hl:s.heap.IsList (ρ r) vs.toArray:=⟨_,h1,rfl,k,rfl⟩
  have ht:vs.toArray.any (eV va)=xs.any (sq · a):=by rw [← z2]; simp
  rw [← ht]
  exact ⟨fun h=>SeqAt.in_listAt (eV va) hl (fun y hy=>z1 y (by simpa using hy) _ _) h,fun h=>SeqAt.notIn_listAt (eV va) hl (fun y hy=>z1 y (by simpa using hy) _ _) h⟩
theorem wc (ok:Ok c) {p:Nat} (h:lk c.G.top p=some xs) (hk:xs.all (kin · a)=true):Cm c .notin a (.obj p) T (!xs.any (sq · a)):=by
 intro d A s ρ δ va vb Q E hr ro ra rb nx
 refine zEEA (ok.top _ _ h) fun vs k q1 w1=>?_
 cases rb
 exact (qZ hk (hr.base _ _ q1) (w1.up (Nat.zero_le _) fun i q=>absurd q (Nat.not_lt_zero i)) ra).2 (nx s.heap s.toks Go.refl hr)
theorem tJ (o:T.get r=some (.tuple xs)∨T.get r=some (.list xs)) (hk:xs.all (kin · a)=true):Cm c .isin a (.ref r) T (xs.any (sq · a)):=by
 intro d A s ρ δ va vb Q E hr ro ra rb nx
 exact (vj o hk hr ra rb).1 (nx s.heap s.toks Go.refl hr)
theorem mP (o:T.get r=some (.tuple xs)∨T.get r=some (.list xs)) (hk:xs.all (kin · a)=true):Cm c .notin a (.ref r) T (!xs.any (sq · a)):=by
 intro d A s ρ δ va vb Q E hr ro ra rb nx
 exact (vj o hk hr ra rb).2 (nx s.heap s.toks Go.refl hr)
theorem rU {A:Around} {s:Shared} {ρ δ:Nat→Addr} {va vb:Value} {E:Value→Shared→Prop} {Q:Value→Shared→Prop} (o:T.get r=some (.dict es ep)) (hk:kOk a es=true) (hr:HR c ρ δ T T.n s.heap) (ra:VR T.n ρ a va) (rb:VR T.n ρ (.ref r) vb) :
  ((∀ t',Q (.bool (dlk a es).isSome) (Sh s s.heap t'))→wpAny (model c.prog c.w) A (compareOp .In va vb) Q E s)∧((∀ t',Q (.bool (!(dlk a es).isSome)) (Sh s s.heap t'))→wpAny (model c.prog c.w) A (compareOp .NotIn va vb) Q E s):=by
 rw [rb.2]
 have hor:=(hr.obj _ _ o).2
 refine DR.key hor hk ra fun {K _ knd is} kk {kvs b} hd hk hb hkey back=>?_
 have L:=KR.look kk hb hk
 have hs:(dlk a es).isSome=(valueAt kvs b).isSome:=by
  cases q:dlk a es with
  | none=>rw [L.2 q]; rfl
  | some y=>obtain ⟨u,w,_⟩:=L.1 y q; rw [w]; rfl
 rw [hs]
 exact ⟨fun h=>wpAny_in_of hkey hor.1 hd.dictOf.mapOf (h _),fun h=>wpAny_notIn_of hkey hor.1 hd.dictOf.mapOf (h _)⟩
theorem ib (o:T.get r=some (.dict es ep)) (hk:kOk a es=true):Cm c .isin a (.ref r) T (dlk a es).isSome:=by
 intro d A s ρ δ va vb Q E hr ro ra rb nx
 exact (rU o hk hr ra rb).1 fun t'=>nx s.heap t' Go.refl hr
theorem nZ (o:T.get r=some (.dict es ep)) (hk:kOk a es=true):Cm c .notin a (.ref r) T (!(dlk a es).isSome):=by
 intro d A s ρ δ va vb Q E hr ro ra rb nx
 exact (rU o hk hr ra rb).2 fun t'=>nx s.heap t' Go.refl hr
theorem xi {x:Nat} {l:List Nat}:Cm c .isin (.str [x]) (.str l) T (l.contains x):=by
 intro d A s ρ δ _ _ Q E hr ro gX0 gX1 nx
 refine zE gX0 fun _ gR0=>?_
 clear gX0
 subst gR0
 refine zE gX1 fun _ gR0=>?_
 clear gX1
 subst gR0
 refine P.in_str ?_
 rw [show (!(Builtin.Str.occurrences (S l) (S [x]) 0 (S l).length 1).isEmpty)=l.contains x from (StrLaws.found_one (S l) x).trans (by simp)]
 exact nx s.heap s.toks Go.refl hr
end
end Mine.Internal
end
section
open PySem PySem.W PyProof.Rows
open PySem.Spec (ltCps)
namespace Mine.Internal
section
variable {n:Nat} {ρ:Nat→Addr}
theorem vr1 {a:AV} {vals:List Value} (h:VRs n ρ [a] vals):∃ v,vals=[v]∧VR n ρ a v:=by
 cases vals with
 | nil=>exact h.elim
 | cons v r=>cases r with
  | nil=>exact ⟨v,rfl,h.1⟩
  | cons=>exact h.2.elim
theorem vr2 {a b:AV} {vals:List Value} (h:VRs n ρ [a,b] vals):∃ v u,vals=[v,u]∧VR n ρ a v∧VR n ρ b u:=by
 cases vals with
 | nil=>exact h.elim
 | cons v r=>
  refine zEA (vr1 h.2) fun u gR0 q=>?_
  subst gR0
  exact ⟨v,u,rfl,h.1,q⟩
theorem tO {l:List Int} {vs:List Value} (h:IntsAre vs l):VRs n ρ (l.map .int) vs:=by
 induction h with
 | nil=>trivial
 | cons i t h ih=>exact ⟨⟨t,rfl⟩,ih⟩
theorem um {l:List (List Nat)}:∀ {vs:List Value},StrsAre vs (l.map S)→VRs n ρ (l.map .str) vs:=by
 induction l with
 | nil=>intro vs h; cases h; trivial
 | cons x l ih=>intro vs h; cases h with | cons y t h=>exact ⟨⟨t,rfl⟩,ih h⟩
theorem uS {l:List Int}:∀ {vs:List Value},VRs n ρ (l.map .int) vs→IntsAre vs l:=by
 induction l with
 | nil=>intro vs h; cases vs with
  | nil=>exact .nil
  | cons=>exact h.elim
 | cons x l ih=>intro vs h; cases vs with
  | nil=>exact h.elim
  | cons v vs=>obtain ⟨⟨t,rfl⟩,h⟩:=h; exact .cons x t (ih h)
theorem tK {l:List (List Nat)}:∀ {vs:List Value},VRs n ρ (l.map .str) vs→StrsAre vs (l.map S):=by
 induction l with
 | nil=>intro vs h; cases vs with
  | nil=>exact .nil
  | cons=>exact h.elim
 | cons x l ih=>intro vs h; cases vs with
  | nil=>exact h.elim
  | cons v vs=>obtain ⟨⟨t,rfl⟩,h⟩:=h; exact .cons (S x) t (ih h)
end
structure Tot {α:Type} (lt:α→α→Bool):Prop where
 tr:∀ {a b c},lt b a=false→lt c b=false→lt c a=false
 anti:∀ {a b},lt a b=false→lt b a=false→a=b
noncomputable def Srt {α:Type} (lt:α→α→Bool) (l:List α):Prop:=l.Pairwise (fun a b=>lt b a=false)
theorem fA {α:Type} {lt:α→α→Bool} (h:Tot lt) {a b:List α} (p:a.Perm b) (h1:Srt lt a) (h2:Srt lt b):a=b:=by
 induction a generalizing b with
 | nil=>rw [List.nil_perm.mp p]
 | cons x a ih=>cases b with
  | nil=>exact absurd p.length_eq (by simp)
  | cons y b=>
   unfold Srt at h1 h2
   rw [List.pairwise_cons] at h1 h2
   have e:x=y:=by
    rcases List.mem_cons.mp (p.mem_iff.mp (.head _)) with e | hx
    ·exact e
    ·rcases List.mem_cons.mp (p.mem_iff.mpr (.head _)) with e | hy
     ·exact e.symm
     ·exact h.anti (h2.1 x hx) (h1.1 y hy)
   subst e
   rw [ih (List.Perm.cons_inv p) h1.2 h2.2]
noncomputable def ilt (a b:Int):Bool:=decide (a<b)
noncomputable def slt (a b:List Nat):Bool:=decide (a<b)
theorem yt:Tot ilt:=⟨fun {a b c} h1 h2=>by unfold ilt at *; simp only [decide_eq_false_iff_not] at *; omega,fun {a b} h1 h2=>by unfold ilt at *; simp only [decide_eq_false_iff_not] at *; omega⟩
theorem wQ:Tot slt:=by
 refine ⟨fun {a b c} h1 h2=>?_,fun {a b} h1 h2=>?_⟩
 ·unfold slt at *; simp only [decide_eq_false_iff_not] at *
  exact List.not_lt.mpr (List.le_trans (List.not_lt.mp h1) (List.not_lt.mp h2))
 ·unfold slt at *; simp only [decide_eq_false_iff_not] at *
  exact List.le_antisymm (List.not_lt.mp h2) (List.not_lt.mp h1)
theorem oB {l:List Str} (h:sortedS l=true):Srt slt (l.map (·.cps.toList)):=by
 have key:∀ (l:List Str) (p:Str),risingS p l=true→Srt slt ((p :: l).map (·.cps.toList)):=by
  intro l
  induction l with
  | nil=>intro p _; exact List.pairwise_singleton _ _
  | cons x r ih=>
   intro p h
   have h1:ltCps x.cps.toList p.cps.toList=false∧risingS x r=true:=by
    unfold risingS at h
    simpa using h
   have i:=ih x h1.2
   rw [ltCps_eq] at h1
   refine List.pairwise_cons.mpr ⟨fun z hz=>?_,i⟩
   rcases List.mem_cons.mp hz with rfl | hz
   ·exact h1.1
   ·exact wQ.tr h1.1 ((List.pairwise_cons.mp i).1 z hz)
 cases l with
 | nil=>exact .nil
 | cons x r=>exact key r x h
section
variable {prog:Program} {w:World} {A:Around} {E:Value→Shared→Prop} {s:Shared}
theorem jW {r:Addr} {vals0:List Value→Prop} {O:List Value→Prop} {Q:Value→Shared→Prop}
  (hc:∀ {R:List Value→Shared→Prop},(∀ h' tk vals,(∀ b o,s.heap.get? b=some o→h'.get? b=some o)→vals0 vals→R vals { s with heap:=h',toks:=tk })→wpAny (model prog w) A.in1 (collect (.ref r)) R E s)
  (hlen:∀ vals,vals0 vals→vals.length<64)
  (hs:∀ {vals:List Value} {s':Shared} {a:Addr} {A':Around} {E':Value→Shared→Prop} {Q':Fin→Shared→Prop},vals0 vals→s'.heap.get? a=some (seqObj "list" vals.toArray 0)→(∀ out:Array Value,O out.toList→Q' (.done (.ret .none)) { s' with heap:=sortedHeap s'.heap a vals out })→wpAny (model prog w) A' (Builtin.«list.sort» ⟨[.ref a],[]⟩) Q' E' s')
  (h:∀ h' tk a (out:List Value) k,(∀ b o,s.heap.get? b=some o→h'.get? b=some o)→s.heap.get? a=none→h'.get? a=some (listOf out.toArray k)→O out→Q (.ref a) { s with heap:=h',toks:=tk }) :
  wpAny (model prog w) A (call (.builtin "sorted") [.ref r]) Q E s:=by
 refine Calls.call_function_entry kind_sorted plain_sorted entry_sorted (args_sorted1 _) ?_
 unfold Builtin.«sorted»
 refine WB (m:=checkCount "sorted" 1 1 _) (WQ ?_)
 refine WB (hc fun h' tk vals hk hv=>?_)
 have l64:=hlen vals hv
 refine WB (wpAny_newList ?_ (by rw [sizeLine_eq]; omega))
 have ho:(h'.push (seqObj "list" vals.toArray 0)).get? h'.objs.size=some (seqObj "list" vals.toArray 0):=Heap.get?_push_size _ rfl
 refine WB (WH (wpAny_call_entry slot_list_sort ⟨_,ho,rfl⟩ entry_list_sort (hs (s':={ s with heap:=h'.push (seqObj "list" vals.toArray 0),toks:=tk }) hv ho fun out hO=>⟨_,rfl,?_⟩) (args_list_sort _)))
 refine WQ ⟨_,rfl,?_⟩
 refine zE (sortedHeap_at (out:=out) ho) fun k hk2=>?_
 refine h _ tk _ out.toList k (fun b o e=>?_) ?_ hk2 hO
 ·have lt:=Heap.lt_size (hk b o e)
  rw [sortedHeap_old (Nat.ne_of_lt lt) (by rw [Heap.size_push]; exact Nat.lt_succ_of_lt lt)]
  exact Heap.get?_push_of_some _ (hk b o e)
 ·cases q:s.heap.get? h'.objs.size with
  | none=>rfl
  | some o=>exact absurd (Heap.lt_size (hk _ _ q)) (Nat.lt_irrefl _)
end
noncomputable def Its (c:Cx) (T:Hp) (r:Nat) (xs:List AV):Prop:=
 ∀ (A:Around) (s:Shared) (ρ δ:Nat→Addr) (E:Value→Shared→Prop) (R:List Value→Shared→Prop),HR c ρ δ T T.n s.heap→A.handled=none →
  (∀ h' tk vals,(∀ b o,s.heap.get? b=some o→h'.get? b=some o)→VRs T.n ρ xs vals→R vals { s with heap:=h',toks:=tk })→wpAny (model c.prog c.w) A (collect (.ref (ρ r))) R E s
section
variable {c:Cx} {T:Hp} {r ep d:Nat} {xs:List AV} {es:List (AV × AV)}
theorem iZ (ho:T.get r=some (.list xs)) (hl:xs.length<64):Its c T r xs:=by
 intro A s ρ δ E R hr _ nx
 refine zEEA ((hr.obj _ _ ho).2) fun vs k h1 h2=>?_
 refine collect_list (vs:=vs) ⟨_,h1,rfl,k,rfl⟩ (nx _ s.toks vs (fun b o e=>?_) h2) (by rw [← h2.len]; exact szl (Nat.lt_trans hl (by decide)))
 rw [Heap.get?_update_other _ _ (Ne.symm (Nat.ne_of_lt (Heap.lt_size e)))]
 exact Heap.get?_push_of_some _ e
theorem oY {K:Type} {n:Nat} {ρ:Nat→Addr} {is:AV→K→Prop} {P:K→Value→Prop} (hi:∀ {x:AV} {k:K} {key:Value},is x k→P k key→VR n ρ x key):∀ {es:List (AV × AV)} {kvs:List (K × Value)} {l:List Value},KR n ρ is es kvs→l.length=kvs.length→(∀ (i:Nat) (v:Value),l[i]?=some v→∃ k x,kvs[i]?=some (k,x)∧P k v)→VRs n ρ (es.map (·.1)) l:=by
 intro es
 induction es with
 | nil=>
  intro kvs l h1 h2 h3
  cases kvs with
  | cons=>exact h1.elim
  | nil=>cases l with
   | nil=>trivial
   | cons=>cases h2
 | cons e es ih=>
  intro kvs l h1 h2 h3
  cases kvs with
  | nil=>exact h1.elim
  | cons q kvs=>cases l with
   | nil=>cases h2
   | cons u l=>
    refine zEEA (h3 0 u rfl) fun k' x' w1 w2=>?_
    cases w1
    exact ⟨hi h1.1 w2,ih h1.2.2 (Nat.succ.inj h2) fun i v' hv'=>h3 (i+1) v' hv'⟩
theorem eI (ho:T.get r=some (.dict es ep)) (hl:es.length<64):Its c T r (es.map (·.1)):=by
 intro A s ρ δ E R hr hh nx
 have dr:=(hr.obj _ _ ho).2
 obtain ⟨sy,⟨kvs,h1,h2⟩ | ⟨kvs,h1,h2⟩⟩:=dr
 ·refine kdu_collect (kdl_dict (knd:=strKind c.prog c.w) (kvs:=kvs) (ep:=ep) sy) hh h1 (by rw [← h2.len]; exact szl (Nat.lt_trans hl (by decide))) fun h' tk acc hkp hacc=>nx h' tk acc.toList hkp ?_
  exact oY (P:=fun k v=>(strKind c.prog c.w).is k v=true) (fun hx hk=>rF hx hk _ ρ) h2 (by rw [Array.length_toList]; exact hacc.1) fun i v hv=>hacc.2 i v (by rw [← Array.getElem?_toList]; exact hv)
 ·refine kdu_collect (kdl_dict (knd:=intKind c.prog c.w) (kvs:=kvs) (ep:=ep) sy) hh h1 (by rw [← h2.len]; exact szl (Nat.lt_trans hl (by decide))) fun h' tk acc hkp hacc=>nx h' tk acc.toList hkp ?_
  exact oY (P:=fun k v=>(intKind c.prog c.w).is k v=true) (fun hx hk=>sW hx hk _ ρ) h2 (by rw [Array.length_toList]; exact hacc.1) fun i v hv=>hacc.2 i v (by rw [← Array.getElem?_toList]; exact hv)
theorem Kv.late {s:Shared} {ρ δ:Nat→Addr} {Q:Value→Shared→Prop} {h':Heap} {t:Nat} {a:Addr} {ao:AO} (ct:Kv c s ρ δ T (aq T ao) (.ref T.n) Q) (hr:HR c ρ δ T T.n s.heap) (k:∀ b o,s.heap.get? b=some o→h'.get? b=some o) (dead:s.heap.get? a=none) (lv:bl h' a) (or:OR c (T.n+1) (ext ρ T.n a) h' a a ao):Q (.ref a) (Sh s h' t):=by
 refine zA (hr.grow (X:=No) (ce T ao) dead dead lv lv k or) fun r1 g1=>?_
 exact ct _ _ _ t _ g1 r1 ⟨Nat.lt_succ_self _,by rw [bD]⟩
theorem o8 {l m:List Int} (hi:Its c T r (l.map .int)) (hl:l.length<64) (p:m.Perm l) (so:Srt ilt m):Bc c (.bi .sorted) [.ref r] d T (.ref T.n) (aq T (.list (m.map .int))):=by
 intro A s ρ δ fv vals Q E rf va hr ro ct
 refine zEA (vr1 va) fun v gR0 ra=>?_
 subst gR0
 rw [ra.2,rf]
 refine jW (vals0:=fun vals=>VRs T.n ρ (l.map .int) vals) (O:=fun out=>VRs T.n ρ (m.map .int) out) (fun nx=>hi _ s ρ δ E _ hr ro.2.2 nx) (fun vals hv=>by rw [← hv.len,LQ]; exact hl) (fun {vals s' a A' E' Q'} hv ho nx=>?_) fun h' tk a out k kp dead ho hO=>ct.late hr kp dead ⟨_,ho⟩ ⟨out,k,ho,co hO⟩
 refine list_sort_tree ho (uS hv) (by rw [← hv.len,LQ]; exact hl) fun out ns' a1 a2 a3=>nx out ?_
 have:ns'=m:=fA yt (a2.trans p.symm) (a3.imp fun h=>by unfold ilt; simpa using h) so
 rw [← this]
 exact tO a1
theorem eW {l m:List (List Nat)} (hi:Its c T r (l.map .str)) (hl:l.length<64) (p:m.Perm l) (so:Srt slt m):Bc c (.bi .sorted) [.ref r] d T (.ref T.n) (aq T (.list (m.map .str))):=by
 intro A s ρ δ fv vals Q E rf va hr ro ct
 refine zEA (vr1 va) fun v gR0 ra=>?_
 subst gR0
 rw [ra.2,rf]
 refine jW (vals0:=fun vals=>VRs T.n ρ (l.map .str) vals) (O:=fun out=>VRs T.n ρ (m.map .str) out) (fun nx=>hi _ s ρ δ E _ hr ro.2.2 nx) (fun vals hv=>by rw [← hv.len,LQ]; exact hl) (fun {vals s' a A' E' Q'} hv ho nx=>?_) fun h' tk a out k kp dead ho hO=>ct.late hr kp dead ⟨_,ho⟩ ⟨out,k,ho,co hO⟩
 have hS:=tK hv
 refine list_sort_treeK strKind_oneLt ho hS.keysOf (fun v₁ v₂ rest e=>keyKind_strs (by rw [← e]; exact hS)) (by rw [← hv.len,LQ]; exact hl) fun st' hp hs=>nx _ ?_
 refine zEAA (sorted_out_str hS hp hs) fun ss' h1 h2 h3=>?_
 have st:∀ x:Str,S x.cps.toList=x:=fun x=>rfl
 have es:(ss'.map (·.cps.toList)).map S=ss':=by rw [List.map_map]; exact List.map_id _
 have p2:(ss'.map (·.cps.toList)).Perm l:=by
  have:=h2.map (·.cps.toList)
  rwa [List.map_map,show (l.map ((fun x:Str=>x.cps.toList) ∘ S))=l from List.map_id _] at this
 have:ss'.map (·.cps.toList)=m:=fA wQ (p2.trans p.symm) (oB h3) so
 rw [← this]
 rw [← es] at h1
 exact um h1
end
end Mine.Internal
end
section
open PySem PySem.W PyProof.Rows
namespace Mine.Internal
noncomputable def bL (n:Nat):List Nat:=if n<10 then [48+n] else [48+n / 10,48+n % 10]
theorem qa:∀ i:Fin 100,(Str.ofString (toString ((i.val:Nat):Int)))=S (bL i.val):=by decide +kernel
section
variable {prog:Program} {w:World} {A:Around} {E:Value→Shared→Prop} {s:Shared}
theorem nE:typeLookup (.type "tuple") "keys" = pure none:=by rw [typeLookup_type,builtinLookup_eq_fast]; kernel_rfl
set_option maxHeartbeats 4000000 in
theorem e6 {a:Addr} {xs:Array Value} {k:Nat} {name:Str} {Q:Option Value→Shared→Prop}
  (hx:s.heap.get? a=some { cls:=.type "tuple",data:=.seq xs k }) (hmiss:typeLookup (.type "tuple") name=pure none) (hname:(["__module__","__name__","__qualname__","__doc__","__annotations__"]:List Str).contains name=false) (hA:A.handled=none)
  (h:∀ h' tk,(∀ b o,s.heap.get? b=some o→h'.get? b=some o)→Q none { s with heap:=h',toks:=tk }) (hsz:name.length+100≤sizeLine) :
  wpAny (model prog w) A (getAttr? (.ref a) name) Q E s:=by
 refine gp fun gP gH=>?_
 obtain ⟨hp,g,d,tk,os⟩:=s
 apply gH;clear gH
 have hT:∀ tk',(⟨hp,g,d,tk',os⟩:Shared).TypeIs (.ref a) "tuple" := fun _=>⟨_,hx,rfl⟩
 have f1:=sub_AttributeError
 have f3:=PySem.F.slot_tuple_getattribute.lookup
 have f4:=PySem.F.slot_tuple_getattribute.bind (.ref a)
 have f5:=am_tuple_getattr_none
 unfold getAttr? getAttrBy? getAttrBy
 repeat (any_goals (first | assumption | exact hT _ | ((with_reducible show wpAny _ _ (call (Value.builtin "tuple.__getattribute__") _ _) _ _ _); refine call_meets PySem.F.slot_tuple_getattribute (hT _) am_entry_tuple_getattribute (PySem.F.args_tuple_getattribute_2 _ _) (meets_getattribute_miss_tuple a xs k #[] name _ hmiss hname hsz) ⟨hx,hA,fun h' tk' e hx'=>?_⟩) | wp_step))
 refine zEE hx'.there fun t' u' he=>?_
 show wpAny _ _ (getattributeRaised _ _ _ _ _ _ _) _ _ _
 unfold getattributeRaised
 repeat (any_goals (first | assumption | wp_step))
 exact h _ _ hx'.keeps
theorem dG:entryFor table "dict.update.loop" = some Builtin.«dict.update.loop»:=entryFor_of_tree (by kernel_rfl)
theorem bP:plainId "dict.update.loop" = true:=by decide +kernel
variable {K:Type} [DecidableEq K] {knd:KeyKind prog w K}
theorem iO {o p:Addr} {ok pk:Nat} {k:K} {key v:Value} {Q:Value→Shared→Prop} (hkey:knd.is k key=true) (hA:A.handled=none)
  (ho:s.heap.get? o=some { cls:=.type "tuple",data:=.seq #[.ref p] ok }) (hp:s.heap.get? p=some { cls:=.type "tuple",data:=.seq #[key,v] pk })
  (h:∀ h' tk,(∀ b o,s.heap.get? b=some o→h'.get? b=some o)→h'.DictAt knd s.heap.objs.size [(k,v)] 1→Q (.ref s.heap.objs.size) { s with heap:=h',toks:=tk }) :
  wpAny (model prog w) A (call (.type "dict") [.ref o]) Q E s:=by
 refine callType_codes (Q₁:=fun obj s₁=>obj=.ref s.heap.objs.size∧s₁={ s with heap:=s.heap.push { cls:=.type "dict",data:=.dict #[] } }) PySem.F.kt_called_dict (PySem.F.kt_typeCall_dict_1 _) PySem.F.entry_dict_init (kt_code_dict_new _ ⟨rfl,rfl⟩) ?_
 rintro obj s₁ ⟨rfl,rfl⟩
 have aq:(s.heap.push { cls:=.type "dict",data:=.dict #[] }).DictAt knd s.heap.objs.size [] 0:=⟨_,#[],Heap.get?_push_size _ rfl,⟨rfl,rfl,rfl⟩,rfl,fun _ he=>by simp at he,Pairs.nil,List.nodup_nil⟩
 have ho':=Heap.get?_push_of_some { cls:=.type "dict",data:=.dict #[] } ho
 have hp':=Heap.get?_push_of_some { cls:=.type "dict",data:=.dict #[] } hp
 have hT:Shared.TypeIs { s with heap:=s.heap.push { cls:=.type "dict",data:=.dict #[] } } (.ref o) "tuple" := ⟨_,ho',rfl⟩
 refine ⟨aq.dictOf.typeIs,PySem.F.args_dict_init_2 _ _,?_⟩
 unfold Builtin.«dict.__init__»
 refine WB ?_
 unfold Builtin.Dict.selfAndRest
 refine WB (wpAny_notOrdered_dict aq.dictOf.typeIs ?_)
 show wpAny _ _ (pure (s.heap.objs.size,[Value.ref o])) _ _ _
 refine WQ ?_
 show wpAny _ _ (Builtin.Dict.updateFrom "dict.__init__" s.heap.objs.size (.ref o) [] .none) _ _ _
 unfold Builtin.Dict.updateFrom
 refine WB (wpAny_typeOf hT ?_)
 rw [if_pos (by decide)]
 refine WB (e6 ho' nE (by decide +kernel) hA (fun h1 tk1 k1=>?_) (by size_fits))
 show wpAny _ _ (if (true=true) then _ else _) _ _ _
 rw [if_pos rfl]
 refine WB (wpAny_rule ?_)
 have ho1:=k1 _ _ ho'
 refine WB (wpAny_pyIter_tuple (t:=o) (items:=#[.ref p]) ⟨_,ho1,rfl,ok,rfl⟩ ?_)
 refine WQ ⟨plainId_quiet bP _,codeAny_builtin dG ?_⟩
 rw [Around.under_plainId bP _]
 have itr:(h1.push { cls:=.type "tuple_iterator",data:=.fields #[.ref o,.int 0 0] }).IsTupleIter h1.objs.size o 0:=⟨_,Heap.get?_push_size _ rfl,rfl,rfl⟩
 have ne:o≠h1.objs.size:=Nat.ne_of_lt (Heap.lt_size ho1)
 unfold Builtin.«dict.update.loop»
 show wpAny _ _ (pyNext (.ref h1.objs.size) >>= _) _ _ _
 refine WB (wpAny_pyNext_tuple_item itr (items:=#[.ref p]) (x:=.ref p) ⟨_,Heap.get?_push_of_some _ ho1,rfl,ok,rfl⟩ rfl fun h2 it2 sb2=>?_)
 have k2:∀ b ob,h1.get? b=some ob→h2.get? b=some ob:=fun b ob e=>sb2.extBut b ob (Nat.ne_of_lt (Heap.lt_size e)) (Heap.get?_push_of_some _ e)
 have hp2:=k2 _ _ (k1 _ _ hp')
 have hd2:h2.DictAt knd s.heap.objs.size [] 0:=aq.at' fun o e=>k2 _ _ (k1 _ _ e)
 dsimp only
 refine WB (WH ?_)
 refine WB (wpAny_tryCatch ?_)
 unfold Builtin.Dict.pairItems
 refine WB (wpAny_typeOf (T:="tuple") ⟨_,hp2,rfl⟩ ?_)
 rw [if_pos (by decide)]
 refine WB ?_
 unfold seqItems?
 refine WB (wpAny_load hp2 ?_)
 refine WQ (WQ ?_)
 dsimp only [Option.getD_some]
 refine WH (fM hkey hd2 (Nat.zero_le _) fun h3 hd3 sb3=>?_)
 have ne2:h1.objs.size≠s.heap.objs.size:=Ne.symm (Nat.ne_of_lt (Heap.lt_size (k1 _ _ (Heap.get?_push_size s.heap (o:={ cls:=.type "dict",data:=.dict #[] }) rfl))))
 have it3:h3.IsTupleIter h1.objs.size o 1:=by obtain ⟨ob,z1,z2⟩:=it2; exact ⟨ob,sb3.extBut _ _ ne2 z1,z2⟩
 have ho3:h3.get? o=some { cls:=.type "tuple",data:=.seq #[.ref p] ok }:=sb3.extBut _ _ (Nat.ne_of_lt (Heap.lt_size ho)) (k2 _ _ ho1)
 refine WQ ⟨plainId_quiet bP _,codeAny_builtin dG ?_⟩
 rw [Around.under_plainId bP _]
 unfold Builtin.«dict.update.loop»
 show wpAny _ _ (pyNext (.ref h1.objs.size) >>= _) _ _ _
 refine WB (wpAny_pyNext_tuple_end hA it3 (items:=#[.ref p]) ⟨_,ho3,rfl,ok,rfl⟩ (by simp) fun h4 eb4=>?_)
 dsimp only
 refine WB (WQ (WQ ⟨rfl,?_⟩))
 refine h h4 _ (fun b ob e=>?_) ?_
 ·have l0:=Heap.lt_size e
  have lb:b<h1.objs.size:=Heap.lt_size (k1 _ _ (Heap.get?_push_of_some _ e))
  exact eb4 _ _ (Nat.ne_of_lt lb) (sb3.extBut _ _ (Nat.ne_of_lt l0) (k2 _ _ (k1 _ _ (Heap.get?_push_of_some _ e))))
 ·exact hd3.at' fun ob e=>eb4 _ _ (Ne.symm ne2) e
end
section
variable {c:Cx} {T:Hp} {r d:Nat} {xs:List AV} {l:List Nat} {b:Bool} {i:Int}
theorem gR (h:l.length<4000):Bc c (.bi .len) [.str l] d T (.int (l.length:Int)) T:=by
 intro A s ρ δ fv vals Q E rf va hr ro ct
 refine zEAE (vr1 va) fun v gR0 t gR1=>?_
 subst gR0
 subst gR1
 rw [rf]
 exact P.len_str (by rw [eE]; omega) (ct ρ δ s.heap _ _ Go.refl hr ⟨s.toks+1,by rw [eE]⟩)
theorem cO (ho:T.get r=some (.list xs)) (h:xs.length<4000):Bc c (.bi .len) [.ref r] d T (.int (xs.length:Int)) T:=by
 intro A s ρ δ fv vals Q E rf va hr ro ct
 refine zEA (vr1 va) fun v gR0 ra=>?_
 subst gR0
 refine zEEA ((hr.obj _ _ ho).2) fun vs k h1 h2=>?_
 rw [ra.2,rf]
 rw [h2.len] at h ct
 exact Calls.call_len_list (items:=vs.toArray) ⟨_,h1,rfl,k,rfl⟩ (by rw [List.size_toArray]; omega) (ct ρ δ s.heap _ _ Go.refl hr ⟨s.toks+1,by rw [List.size_toArray]⟩)
theorem gQ (ho:T.get r=some (.tuple xs)) (h:xs.length<4000):Bc c (.bi .len) [.ref r] d T (.int (xs.length:Int)) T:=by
 intro A s ρ δ fv vals Q E rf va hr ro ct
 refine zEA (vr1 va) fun v gR0 ra=>?_
 subst gR0
 refine zEEA ((hr.obj _ _ ho).2) fun vs k h1 h2=>?_
 rw [ra.2,rf]
 rw [h2.len] at h ct
 exact P.len_tuple (items:=vs.toArray) h1 (by rw [List.size_toArray]; omega) (ct ρ δ s.heap _ _ Go.refl hr ⟨s.toks+1,by rw [List.size_toArray]⟩)
theorem dE:Bc c (.typ .type) [.str l] d T (.typ .str) T:=by
 intro A s ρ δ fv vals Q E rf va hr ro ct
 refine zEAE (vr1 va) fun v gR0 t gR1=>?_
 subst gR0
 subst gR1
 rw [rf]
 exact call_type_of (typeIs_str _ _ _) (by decide) (ct ρ δ s.heap _ _ Go.refl hr rfl)
theorem dA:Bc c (.typ .type) [.int i] d T (.typ .int) T:=by
 intro A s ρ δ fv vals Q E rf va hr ro ct
 refine zEAE (vr1 va) fun v gR0 t gR1=>?_
 subst gR0
 subst gR1
 rw [rf]
 exact call_type_of (typeIs_int _ _ _) (by decide) (ct ρ δ s.heap _ _ Go.refl hr rfl)
theorem dz (ho:T.get r=some (.tuple xs)):Bc c (.typ .type) [.ref r] d T (.typ .tuple) T:=by
 intro A s ρ δ fv vals Q E rf va hr ro ct
 refine zEA (vr1 va) fun v gR0 ra=>?_
 subst gR0
 refine zEEA ((hr.obj _ _ ho).2) fun vs k h1 h2=>?_
 rw [ra.2,rf]
 exact call_type_of ⟨_,h1,rfl⟩ (by decide) (ct ρ δ s.heap _ _ Go.refl hr rfl)
theorem kP:Bc c (.typ .range) [.int i] d T (.ref T.n) (aq T (.range 0 i)):=by
 intro A s ρ δ fv vals Q E rf va hr ro ct
 refine zEAE (vr1 va) fun v gR0 t gR1=>?_
 subst gR0
 subst gR1
 rw [rf]
 exact call_range_1 (ct.push (t:=s.toks+1+1) hr rfl ⟨_,_,_,Heap.get?_push_size _ rfl⟩)
theorem kR {k:Nat} (h:k<100):Bc c (.typ .str) [.int (k:Int)] d T (.str (bL k)) T:=by
 intro A s ρ δ fv vals Q E rf va hr ro ct
 refine zEAE (vr1 va) fun v gR0 t gR1=>?_
 subst gR0
 subst gR1
 rw [rf]
 refine P.str_of_int (by
  have:k.log2≤k:=Nat.log2_le_self k
  simp only [Int.natAbs_natCast]; omega) (ct ρ δ s.heap _ _ Go.refl hr ⟨s.toks,?_⟩)
 exact congrArg (Value.str · s.toks) (qa ⟨k,h⟩)
theorem sN (ho:T.get r=some (.list xs)) (h:xs.length<4000):Bc c (.typ .tuple) [.ref r] d T (.ref T.n) (aq T (.tuple xs)):=by
 intro A s ρ δ fv vals Q E rf va hr ro ct
 refine zEA (vr1 va) fun v gR0 ra=>?_
 subst gR0
 refine zEEA ((hr.obj _ _ ho).2) fun vs k h1 h2=>?_
 rw [ra.2,rf]
 rw [h2.len] at h
 refine call_tuple_list (items:=vs.toArray) ⟨_,h1,rfl,k,rfl⟩ (fun h' kp=>?_) (by rw [List.size_toArray]; exact szl h)
 refine ct.late hr (fun b o e=>Heap.get?_push_of_some _ (kp b o e)) ?_ ⟨_,Heap.get?_push_size _ rfl⟩ ⟨vs,0,Heap.get?_push_size _ rfl,co h2⟩
 cases q:s.heap.get? h'.objs.size with
 | none=>rfl
 | some o=>exact absurd (Heap.lt_size (kp _ _ q)) (Nat.lt_irrefl _)
theorem qB (ho:T.get r=some (.tuple xs)):Bc c (.typ .tuple) [.ref r] d T (.ref r) T:=by
 intro A s ρ δ fv vals Q E rf va hr ro ct
 refine zEA (vr1 va) fun v gR0 ra=>?_
 subst gR0
 refine zEEA ((hr.obj _ _ ho).2) fun vs k h1 h2=>?_
 refine zA ra fun lt gR0=>?_
 subst gR0
 rw [rf]
 exact call_tuple_same (items:=vs.toArray) ⟨_,h1,rfl,k,rfl⟩ (ct ρ δ s.heap s.toks _ Go.refl hr ⟨lt,rfl⟩)
theorem pg (ho:T.get r=some (.tuple xs)) (h:xs.length<4000):Bc c (.typ .list) [.ref r] d T (.ref T.n) (aq T (.list xs)):=by
 intro A s ρ δ fv vals Q E rf va hr ro ct
 refine zEA (vr1 va) fun v gR0 ra=>?_
 subst gR0
 refine zEEA ((hr.obj _ _ ho).2) fun vs k h1 h2=>?_
 rw [ra.2,rf]
 rw [h2.len] at h
 refine call_list_seq (ρ r) (.inr rfl) h1 rfl rfl (fun h' k' kp hD=>?_) (by rw [List.size_toArray]; exact szl h)
 exact ct.late (t:=s.toks) hr kp (bo _ (Nat.le_refl _)) ⟨_,hD⟩ ⟨vs,k',hD,co h2⟩
theorem qJ:Bc c (.typ .bool) [.bool b] d T (.bool b) T:=by
 intro A s ρ δ fv vals Q E rf va hr ro ct
 refine zEA (vr1 va) fun v gR0 gR1=>?_
 subst gR0
 subst gR1
 rw [rf]
 exact call_bool_bool (ct ρ δ s.heap s.toks _ Go.refl hr rfl)
theorem uC {a p:Nat} {v:AV} (ok:Ok c) (h1:lk c.G.top a=some [.obj p]) (h2:lk c.G.top p=some [.str l,v]):Bc c (.typ .dict) [.obj a] d T (.ref T.n) (aq T (.dict [(.str l,v)] 1)):=by
 intro A s ρ δ fv vals Q E rf va hr ro ct
 refine gp fun gP gH=>?_
 refine zEA (vr1 va) fun _ gR0 gR1=>?_
 subst gR0
 subst gR1
 refine zEEA (ok.top _ _ h1) fun vs kk q1 w1=>?_
 refine zEEA (ok.top _ _ h2) fun us kk' q2 w2=>?_
 refine zEA (vr1 w1) fun _ gR0 gR1=>?_
 subst gR0
 subst gR1
 refine zEEAA (vr2 w2) fun _ u gR0 gN1 r2=>?_
 subst gR0
 obtain ⟨t,rfl⟩:=gN1
 apply gH;clear gH
 rw [rf]
 have dead:s.heap.get? s.heap.objs.size=none:=bo _ (Nat.le_refl _)
 refine iO (knd:=strKind c.prog c.w) (k:=S l) (by simp [PySem.strKind,Value.isStrOf]) ro.2.2 (hr.base _ _ q1) (hr.base _ _ q2) fun h' tk kp hd=>?_
 refine ct.late (t:=tk) hr kp dead (let ⟨o,_,q,_⟩:=hd; ⟨o,q⟩) ⟨beq_false_of_ne fun z=>?_,.inl ⟨_,hd,rfl,r2.up (Nat.zero_le _) fun i q=>absurd q (Nat.not_lt_zero i),trivial⟩⟩
 refine zE ok.sysm fun ob q=>?_
 have:=hr.base _ _ q
 rw [← z,dead] at this
 cases this
end
noncomputable abbrev mA:Nat:=111529134485858
noncomputable abbrev dR:Nat:=498014421767949786445172
noncomputable abbrev pD:Nat:=504296730996
noncomputable abbrev iH:Nat:=487117256052
noncomputable abbrev lW:Nat:=133480695425651
noncomputable abbrev vf:Nat:=7693928
section
variable {c:Cx} {T:Hp} {l m:List Nat} {r d ep:Nat} {xs:List AV} {es:List (AV × AV)} {v k:AV}
theorem cW:Bg c (.str l) dR "str.startswith" T:=by
 rintro A s ρ δ _ pl Q E ⟨t,rfl⟩ hr h
 rw [show nmS dR=("startswith" : Str) by decide +kernel]; with_reducible exact GM.startswith h
theorem tI:Bg c (.str l) pD "str.split" T:=by
 rintro A s ρ δ _ pl Q E ⟨t,rfl⟩ hr h
 rw [show nmS pD=("split" : Str) by decide +kernel]; with_reducible exact GM.split h
theorem tv:Bg c (.str l) iH "str.strip" T:=by
 rintro A s ρ δ _ pl Q E ⟨t,rfl⟩ hr h
 rw [show nmS iH=("strip" : Str) by decide +kernel]; with_reducible exact GM.strip h
theorem i5:Bg c (.str l) lW "str.rindex" T:=by
 rintro A s ρ δ _ pl Q E ⟨t,rfl⟩ hr h
 rw [show nmS lW=("rindex" : Str) by decide +kernel]; with_reducible exact GM.rindex h
theorem dq (ho:T.get r=some (.list xs)):Bg c (.ref r) mA "list.append" T:=by
 intro A s ρ δ v pl Q E rv hr h
 refine zEEA ((hr.obj _ _ ho).2) fun vs k h1 h2=>?_
 rw [rv.2] at h ⊢
 rw [show nmS mA=("append" : Str) by decide +kernel]
 exact Calls.getMethod_list_append h1 rfl rfl h
theorem vz (ho:T.get r=some (.dict es ep)):Bg c (.ref r) vf "dict.get" T:=by
 intro A s ρ δ v pl Q E rv hr h
 rw [rv.2] at h ⊢
 rw [show nmS vf=("get" : Str) by decide +kernel]
 obtain ⟨_,⟨kvs,h1,h2⟩ | ⟨kvs,h1,h2⟩⟩:=(hr.obj _ _ ho).2
 ·exact getMethod_builtin h1.dictOf.typeIs PySem.F.plainAttrs_dict PySem.F.slot_dict_get PySem.F.type_dict_get h1.dictOf.mapOf.noDict h
 ·exact getMethod_builtin h1.dictOf.typeIs PySem.F.plainAttrs_dict PySem.F.slot_dict_get PySem.F.type_dict_get h1.dictOf.mapOf.noDict h
theorem jC (x y:List Nat):Txt.startswith (S x) (S y)=y.isPrefixOf x:=by
 unfold Txt.startswith Builtin.Str.subAt
 rw [Bool.eq_iff_iff,List.isPrefixOf_iff_prefix]
 simp only [Str.length,List.size_toArray,Nat.zero_add,Bool.and_eq_true,decide_eq_true_eq,beq_iff_eq]
 constructor
 ·rintro ⟨h1,h2⟩
  have:=congrArg Array.toList h2
  simp at this
  exact ⟨x.drop y.length,by conv=>rhs; rw [← List.take_append_drop y.length x,this]⟩
 ·rintro ⟨r,rfl⟩
  simp
theorem cZ:Bm c "str.startswith" (.str l) [.str m] d T (.bool (m.isPrefixOf l)) T:=by
 rintro A s ρ δ _ vals Q E ⟨t,rfl⟩ va hr ro ct
 refine zEAE (vr1 va) fun v gR0 t' gR1=>?_
 subst gR0
 subst gR1
 exact SC.startswith (by rw [jC]; exact ct ρ δ s.heap _ _ Go.refl hr rfl)
theorem jv {x i:Nat} (h1:l[i]?=some x) (h2:∀ k,i<k→l[k]?≠some x):Bm c "str.rindex" (.str l) [.str [x]] d T (.int (i:Int)) T:=by
 rintro A s ρ δ _ vals Q E ⟨t,rfl⟩ va hr ro ct
 refine zEAE (vr1 va) fun v gR0 t' gR1=>?_
 subst gR0
 subst gR1
 have e:Builtin.Str.lastOccurrence (S l) (S [x]) 0 (S l).length=some i:=by
  have at_:∀ k,StrLaws.At (S l) ⟨#[x]⟩ (S l).length k↔l[k]?=some x:=fun k=>StrLaws.subAt_one (S l) x k
  rcases StrLaws.last_spec (S l) ⟨#[x]⟩ with ⟨q1,q2⟩ | ⟨j,q1,q2,q3⟩
  ·exact absurd ((at_ i).mpr h1) (q2 i)
  ·refine q1.trans (congrArg some ?_)
   have z1:=(at_ j).mp q2
   rcases Nat.lt_trichotomy i j with z | z | z
   ·exact absurd z1 (h2 j z)
   ·exact z.symm
   ·exact absurd ((at_ i).mpr h1) (q3 i z)
 exact call_gives PySem.F.slot_str_rindex (typeIs_str _ _ _) PySem.F.entry_str_rindex (PySem.F.args_str_rindex_2 _ _) (gives_str_rindex _ _ t t' i e) (ct ρ δ s.heap _ _ Go.refl hr ⟨_,rfl⟩)
theorem dw (ho:T.get r=some (.list xs)) (sz:xs.length<4000) (hro:1≤r):Bm c "list.append" (.ref r) [v] d T .none (aI T r (.list (xs ++ [v]))):=by
 intro A s ρ δ ov vals Q E rv va hr ro ct
 refine zEA (vr1 va) fun vy gR0 vr=>?_
 subst gR0
 refine zAEEA (hr.obj _ _ ho) fun lt vals kk q1 q2=>?_
 rw [rv.2]
 rw [q2.len] at sz
 refine wpAny_list_append_plain (items:=vals.toArray) ⟨kk,q1⟩ (fun h' z1 z2=>?_) (by rw [List.size_toArray]; exact szl (by first | assumption | omega))
 refine gp fun gP gH=>?_
 obtain ⟨k2,z1⟩:=z1
 obtain ⟨hr6,g6⟩:=hr.turn1 (X:=No) (ao:=.list (xs ++ [v])) (h':=h') hro lt z2.extBut ⟨_,z1⟩ ⟨vals ++ [vy],k2,by rw [z1]; simp [W.listOf],q2.append ⟨vr,trivial⟩⟩
 apply gH;clear gH
 exact ct ρ δ h' _ _ g6 hr6 rfl
theorem vq {u:AV} (ho:T.get r=some (.dict es ep)) (hk:kOk k es=true):Bm c "dict.get" (.ref r) [k,u] d T ((dlk k es).getD u) T:=by
 intro A s ρ δ ov vals Q E rv va hr ro ct
 refine zEEAA (vr2 va) fun kv uv gR0 r1 r2=>?_
 subst gR0
 have dr:=(hr.obj _ _ ho).2
 rw [rv.2]
 refine DR.key dr hk r1 fun {K _ knd is} kk {kvs b} hd hkr hb hkey back=>?_
 have L:=KR.look kk hb hkr
 refine call_meetsIn PySem.F.slot_dict_get hd.dictOf.typeIs PySem.F.entry_dict_get (PySem.F.args_dict_get_3 _ _ _) (meets_dict_get_default knd _ hkey dr.1 uv) ⟨_,hd.dictOf.mapOf,?_⟩
 refine ct ρ δ s.heap _ _ Go.refl hr ?_
 cases q:dlk k es with
 | none=>rw [L.2 q]; exact r2
 | some y=>obtain ⟨w,w1,w2⟩:=L.1 y q; rw [w1]; exact w2
end
noncomputable def ec (c:Nat):List (List Nat)→List Nat
 | []=>[]
 | x :: r=>x ++ (match r with | []=>[] | _ :: _=>c :: ec c r)
theorem sQ {c:Nat} {x:List Nat}:∀ {y r s:List Nat},c∉x→c∉y→x ++ c :: r=y ++ c :: s→x=y∧r=s:=by
 induction x with
 | nil=>intro y r s _ h e; cases y with
  | nil=>exact ⟨rfl,(List.cons.inj e).2⟩
  | cons b y=>exact absurd (List.cons.inj e).1 fun z=>h (z▸.head _)
 | cons a x ih=>intro y r s h1 h2 e; cases y with
  | nil=>exact absurd (List.cons.inj e).1 fun z=>h1 (z▸.head _)
  | cons b y=>
   refine zA (List.cons.inj e) fun e1 e2=>?_
   refine zA (ih (fun z=>h1 (.tail _ z)) (fun z=>h2 (.tail _ z)) e2) fun z1 z2=>?_
   exact ⟨by rw [e1,z1],z2⟩
theorem q9 {c:Nat} {a:List (List Nat)}:∀ {b:List (List Nat)},a≠[]→b≠[]→(∀ p∈a,c∉p)→(∀ p∈b,c∉p)→ec c a=ec c b→a=b:=by
 induction a with
 | nil=>exact fun h=>absurd rfl h
 | cons x a ih=>intro b _ h h1 h2 e; cases b with
  | nil=>exact absurd rfl h
  | cons y b=>cases a with
   | nil=>cases b with
    | nil=>
     have e:x ++ []=y ++ []:=e
     rw [List.append_nil,List.append_nil] at e
     rw [e]
    | cons z r=>
     have e:x ++ []=y ++ c :: ec c (z :: r):=e
     rw [List.append_nil] at e
     exact absurd (show c∈x by rw [e]; exact List.mem_append_right _ (.head _)) (h1 x (.head _))
   | cons x2 a=>cases b with
    | nil=>
     have e:x ++ c :: ec c (x2 :: a)=y ++ []:=e
     rw [List.append_nil] at e
     exact absurd (show c∈y by rw [← e]; exact List.mem_append_right _ (.head _)) (h2 y (.head _))
    | cons z r=>
     refine zA (sQ (h1 x (.head _)) (h2 y (.head _)) e) fun z1 z2=>?_
     rw [z1,ih (List.cons_ne_nil _ _) (List.cons_ne_nil _ _) (fun p hp=>h1 p (.tail _ hp)) (fun p hp=>h2 p (.tail _ hp)) z2]
theorem sg (c:Nat) (l:List Str):(Str.join ⟨#[c]⟩ l).cps.toList=ec c (l.map (·.cps.toList)):=by
 induction l with
 | nil=>rfl
 | cons x r ih=>cases r with
  | nil=>exact (List.append_nil _).symm
  | cons y r=>
   show ((x.cps ++ #[c]) ++ (Str.join ⟨#[c]⟩ (y :: r)).cps).toList=x.cps.toList ++ c :: ec c ((y :: r).map (·.cps.toList))
   rw [← ih]
   simp
theorem sK {c:Nat} {l:List Nat} {ps:List (List Nat)} (ne':ps≠[]) (hf:∀ p∈ps,c∉p) (e:ec c ps=l):Txt.split (S l) (S [c])=ps.map S:=by
 have h1:=StrLaws.join_split (S l) ⟨#[c]⟩
 have h2:=StrLaws.split_free (S l) c
 have h3:ec c ((Txt.split (S l) ⟨#[c]⟩).map (·.cps.toList))=l:=by
  rw [← sg,h1]
 have ne:Txt.split (S l) ⟨#[c]⟩≠[]:=by
  unfold Txt.split
  split
  ·exact List.cons_ne_nil _ _
  ·split
   ·exact List.cons_ne_nil _ _
   ·rw [StrLaws.partsBetween_eq]
    refine zEE (StrLaws.partsFrom_ne (S l) (⟨#[c]⟩:Str).length 0 (Builtin.Str.occurrences (S l) ⟨#[c]⟩ 0 (S l).length ((S l).length+1))) fun p r e=>?_
    rw [e]; exact List.cons_ne_nil _ _
 have key:(Txt.split (S l) ⟨#[c]⟩).map (·.cps.toList)=ps:=by
  refine q9 (c:=c) (fun z=>ne (List.map_eq_nil_iff.mp z)) ne' ?_ hf (h3.trans e.symm)
  intro p hp
  refine zEA (List.mem_map.mp hp) fun q hq gR0=>?_
  subst gR0
  exact h2 q hq
 rw [← key,List.map_map]
 exact (List.map_id _).symm
section
variable {prog:Program} {w:World} {A:Around} {E:Value→Shared→Prop} {s:Shared} {x:Str} {t:Tok} {Q:Value→Shared→Prop}
theorem pG {y:Str} {u:Tok} (hy:(y.length == 0)=false) (hsz:x.length≤sizeLine) (hsz2:(Txt.split x y).length≤sizeLine)
  (hq:∀ (l:List (Str × Tok)) tk,l.map (·.1)=Txt.split x y→Q (.ref s.heap.objs.size) { s with heap:=s.heap.push { cls:=.type "list",data:=.seq (strValues l).toArray },toks:=tk }) :
  wpAny (model prog w) A (call (.builtin "str.split") [.str x t,.str y u]) Q E s:=by
 cases h1:(decide (x.length<y.length) || decide (Builtin.Str.strKind x<Builtin.Str.strKind y))
 ·cases hf:(Builtin.Str.occurrences x y 0 x.length (x.length+1)).isEmpty
  ·have e:Txt.split x y=Builtin.Str.partsBetween x (Builtin.Str.occurrences x y 0 x.length (x.length+1)) y.length:=(if_neg (ne_true_of_eq_false h1)).trans (if_neg (ne_true_of_eq_false hf))
   rw [e] at hsz2
   refine call_meets PySem.F.slot_str_split (typeIs_str _ _ _) PySem.F.entry_str_split (PySem.F.args_str_split_2 _ _) (meets_str_split_sep x y t u h1 hy hf hsz hsz2) ?_
   show wants Q E _ { s with toks:=_,heap:=s.heap.push { cls:=.type "list",data:=.seq (strsFrom s.toks (Builtin.Str.partsBetween x (Builtin.Str.occurrences x y 0 x.length (x.length+1)) y.length)).toArray } }
   rw [strsFrom_eq]
   exact hq (numbered s.toks _) _ ((numbered_texts _ _).trans e.symm)
  ·exact call_meets PySem.F.slot_str_split (typeIs_str _ _ _) PySem.F.entry_str_split (PySem.F.args_str_split_2 _ _) (meets_str_split_not_found x y t u h1 hy hf)
    (hq [(x,t)] s.toks ((if_neg (ne_true_of_eq_false h1)).trans (if_pos hf)).symm)
 ·exact call_meets PySem.F.slot_str_split (typeIs_str _ _ _) PySem.F.entry_str_split (PySem.F.args_str_split_2 _ _) (meets_str_split_cannot_occur x y t u h1)
   (hq [(x,t)] s.toks (if_pos h1).symm)
end
section
variable {c:Cx} {T:Hp} {l m:List Nat} {d:Nat}
theorem t8 {n:Nat} {ρ:Nat→Addr} (ps:List (List Nat)):∀ {ll:List (Str × Tok)},ll.map (·.1)=ps.map S→VRs n ρ (ps.map .str) (strValues ll):=by
 induction ps with
 | nil=>intro ll hl; cases ll with
  | nil=>trivial
  | cons=>cases hl
 | cons p ps ih=>intro ll hl; cases ll with
  | nil=>cases hl
  | cons q ll=>
   refine zA (List.cons.inj hl) fun e1 e2=>?_
   obtain ⟨q,t⟩:=q
   cases e1
   exact ⟨⟨t,rfl⟩,ih e2⟩
theorem tS {x:Nat} {ps:List (List Nat)} (ne:ps≠[]) (hf:∀ p∈ps,x∉p) (e:ec x ps=l) (h:l.length<4000) (h2:ps.length<4000):Bm c "str.split" (.str l) [.str [x]] d T (.ref T.n) (aq T (.list (ps.map .str))):=by
 rintro A s ρ δ _ vals Q E ⟨t,rfl⟩ va hr ro ct
 refine zEAE (vr1 va) fun v gR0 t' gR1=>?_
 subst gR0
 subst gR1
 have e:=sK ne hf e
 refine pG (by rfl) (by rw [eE]; exact szl h) (by rw [e,LQ]; exact szl h2) fun ll tk hl=>?_
 exact ct.push (t:=tk) hr rfl ⟨strValues ll,0,Heap.get?_push_size _ rfl,t8 ps (hl.trans e)⟩
theorem qs {p:Nat→Bool} (h:∀ b∈l,p b=true):l.takeWhile p=l:=by
 induction l with
 | nil=>rfl
 | cons a l ih=>rw [List.takeWhile_cons,if_pos (h a (.head _)),ih fun b hb=>h b (.tail _ hb)]
theorem sB (h:∀ b∈l,b∈m) (hl:l.length<4000):Bm c "str.strip" (.str l) [.str m] d T (.str []) T:=by
 rintro A s ρ δ _ vals Q E ⟨t,rfl⟩ va hr ro ct
 refine zEAE (vr1 va) fun v gR0 t' gR1=>?_
 subst gR0
 subst gR1
 refine SC.stripChars (fun t' k=>?_) (by rw [eE]; exact szl hl)
 have e:Txt.stripChars (S l) (S m)=S []:=by
  have lo:stripLo (S m).cps.contains true (S l)=l.length:=by
   show (l.takeWhile _).length=_
   rw [show l.takeWhile (S m).cps.contains=l from qs fun b hb=>by simpa using h b hb]
  unfold Txt.stripChars Txt.stripBy
  split
  ·rename_i q
   unfold stripSame at q
   rw [lo,Bool.and_eq_true] at q
   rw [List.eq_nil_of_length_eq_zero (eq_of_beq q.1)]
  ·unfold PySem.stripped
   rw [lo]
   have hi:stripHi (S m).cps.contains true (S l) l.length=l.length:=by
    show (S l).length - ((l.drop l.length).reverse.takeWhile _).length=_
    rw [List.drop_length,eE]; rfl
   rw [hi]
   show (⟨(l.toArray).extract l.length l.length⟩:Str)=_
   rw [Array.extract_eq_empty_of_le (by simp)]
 rw [e]
 exact ct ρ δ s.heap k _ Go.refl hr ⟨_,rfl⟩
end
structure V where
 tag:Nat
 s:Str
 k:Nat
 p:Pos
 i:Int
 a:PySem.Expr
 b:PySem.Expr
 d:PySem.Expr
 t:PySem.Expr
 l:List PySem.Expr
 m:List PySem.Expr
 ks:List (Option PySem.Expr)
 cop:CmpOp
 bop:Operator
 sc:Option Scope
 cop2:CmpOp
noncomputable def v0 (x:PySem.Expr) (p:Pos):V:=⟨0,⟨#[]⟩,0,p,0,x,x,x,x,[],[],[],.Eq,.Add,none,.Eq⟩
noncomputable def vw (x:PySem.Expr):V:=match x with
 | .Name y p=>{ v0 x p with tag:=1,s:=y }
 | .Constant .none k p=>{ v0 x p with tag:=2,k:=k }
 | .Constant (.bool true) k p=>{ v0 x p with tag:=3,k:=k }
 | .Constant (.bool false) k p=>{ v0 x p with tag:=4,k:=k }
 | .Constant (.int i) k p=>{ v0 x p with tag:=5,k:=k,i:=i }
 | .Constant (.str y) k p=>{ v0 x p with tag:=6,k:=k,s:=y }
 | .Attribute a y p=>{ v0 x p with tag:=7,a:=a,s:=y }
 | .Call a l [] p=>{ v0 x p with tag:=8,a:=a,l:=l }
 | .BinOp a o b p=>{ v0 x p with tag:=9,a:=a,bop:=o,b:=b }
 | .Compare a [o] [b] p=>{ v0 x p with tag:=10,a:=a,cop:=o,b:=b }
 | .Compare a [o,o2] [b,d] p=>{ v0 x p with tag:=23,a:=a,cop:=o,cop2:=o2,b:=b,d:=d }
 | .BoolOp .And l p=>{ v0 x p with tag:=11,l:=l }
 | .BoolOp .Or l p=>{ v0 x p with tag:=12,l:=l }
 | .UnaryOp .Not a p=>{ v0 x p with tag:=13,a:=a }
 | .UnaryOp .USub a p=>{ v0 x p with tag:=14,a:=a }
 | .Subscript a b p=>{ v0 x p with tag:=15,a:=a,b:=b }
 | .Slice (some a) none none p=>{ v0 x p with tag:=16,a:=a }
 | .Slice none (some a) none p=>{ v0 x p with tag:=17,a:=a }
 | .List l p=>{ v0 x p with tag:=18,l:=l }
 | .Tuple l k p=>{ v0 x p with tag:=19,l:=l,k:=k }
 | .Dict ks l p=>{ v0 x p with tag:=20,l:=l,ks:=ks }
 | .ListComp a [g] sc p=>{ v0 x p with tag:=21,a:=a,t:=g.target,b:=g.iter,m:=g.ifs,i:=g.is_async,sc:=some sc }
 | .DictComp a d [g] sc p=>{ v0 x p with tag:=22,a:=a,d:=d,t:=g.target,b:=g.iter,m:=g.ifs,i:=g.is_async,sc:=some sc }
 | .SetComp a [g] sc p=>{ v0 x p with tag:=24,a:=a,t:=g.target,b:=g.iter,m:=g.ifs,i:=g.is_async,sc:=some sc }
 | _=>v0 x x.pos
noncomputable def bk (t:Nat) (v:V) (x:PySem.Expr):PySem.Expr:=match t with
 | 1=>.Name v.s v.p
 | 2=>.Constant .none v.k v.p
 | 3=>.Constant (.bool true) v.k v.p
 | 4=>.Constant (.bool false) v.k v.p
 | 5=>.Constant (.int v.i) v.k v.p
 | 6=>.Constant (.str v.s) v.k v.p
 | 7=>.Attribute v.a v.s v.p
 | 8=>.Call v.a v.l [] v.p
 | 9=>.BinOp v.a v.bop v.b v.p
 | 10=>.Compare v.a [v.cop] [v.b] v.p
 | 23=>.Compare v.a [v.cop,v.cop2] [v.b,v.d] v.p
 | 11=>.BoolOp .And v.l v.p
 | 12=>.BoolOp .Or v.l v.p
 | 13=>.UnaryOp .Not v.a v.p
 | 14=>.UnaryOp .USub v.a v.p
 | 15=>.Subscript v.a v.b v.p
 | 16=>.Slice (some v.a) none none v.p
 | 17=>.Slice none (some v.a) none v.p
 | 18=>.List v.l v.p
 | 19=>.Tuple v.l v.k v.p
 | 20=>.Dict v.ks v.l v.p
 | 21=>(match v.sc with | some sc=>.ListComp v.a [⟨v.t,v.b,v.m,v.i⟩] sc v.p | none=>x)
 | 22=>(match v.sc with | some sc=>.DictComp v.a v.d [⟨v.t,v.b,v.m,v.i⟩] sc v.p | none=>x)
 | 24=>(match v.sc with | some sc=>.SetComp v.a [⟨v.t,v.b,v.m,v.i⟩] sc v.p | none=>x)
 | _=>x
theorem xT (x:PySem.Expr):x=bk (vw x).tag (vw x) x:=by
 cases x with
 | Constant v k p=>cases v with
  | bool b=>cases b <;> rfl
  | _=>rfl
 | Call a l kw p=>cases kw <;> rfl
 | Compare a ops rs p=>cases ops with
  | nil=>rfl
  | cons o ops=>cases ops with
   | cons o2 ops=>cases ops with
    | cons=>rfl
    | nil=>cases rs with
     | nil=>rfl
     | cons r rs=>cases rs with
      | nil=>rfl
      | cons r2 rs=>cases rs <;> rfl
   | nil=>cases rs with
    | nil=>rfl
    | cons r rs=>cases rs <;> rfl
 | BoolOp o l p=>cases o <;> rfl
 | UnaryOp o a p=>cases o <;> rfl
 | Slice a b st p=>cases st with
  | some=>cases a <;> cases b <;> rfl
  | none=>cases a <;> cases b <;> rfl
 | ListComp a gs sc p=>cases gs with
  | nil=>rfl
  | cons g gs=>obtain ⟨_,_,_,_⟩:=g; cases gs <;> rfl
 | DictComp a d gs sc p=>cases gs with
  | nil=>rfl
  | cons g gs=>obtain ⟨_,_,_,_⟩:=g; cases gs <;> rfl
 | SetComp a gs sc p=>cases gs with
  | nil=>rfl
  | cons g gs=>obtain ⟨_,_,_,_⟩:=g; cases gs <;> rfl
 | _=>rfl
theorem inv {x:PySem.Expr} {t:Nat} (h:Nat.beq (vw x).tag t=true):x=bk t (vw x) x:=(xT x).trans (by rw [Nat.eq_of_beq_eq_true h])
theorem aw {a b:Bool} (h:(a && b)=true):a=true∧b=true:=(Bool.and_eq_true _ _).mp h
theorem no {P:Prop} (h:false=true):P:=(Bool.false_ne_true h).elim
theorem fy {b:Bool} (h:(!b)=true):b=false:=by cases b <;> first | rfl | cases h
noncomputable def sX (k:Option NameKind):Bool:=match k with
 | some .globalImplicit=>true
 | _=>false
theorem m5 {k:Option NameKind} (h:sX k=true):k=some .globalImplicit:=by
 cases k with
 | none=>cases h
 | some k=>cases k <;> first | rfl | cases h
theorem dK {x:Nat} {y:Str} (h:decide (nm x=y.cps.toList)=true):y=nmS x:=by
 show y=S (nm x)
 rw [of_decide_eq_true h]
noncomputable def k9 (x:Nat) (y:Str):Bool:=decide (nm x=y.cps.toList)
noncomputable def eT (kd:Kd) (x:Nat) (e:PySem.Expr):Bool:=Nat.beq (vw e).tag 1 && (k9 x (vw e).s && eH? (kd (vw e).s))
theorem dl {kd:Kd} {x:Nat} {e:PySem.Expr} (h:eT kd x e=true):∃ p,e=.Name (nmS x) p∧eH? (kd (nmS x))=true:=by
 refine zA (aw h) fun h1 h2=>?_
 refine zA (aw h2) fun h2 h3=>?_
 rw [dK h2] at h3
 exact ⟨_,(inv h1).trans (congrArg (PySem.Expr.Name · _) (dK h2)),h3⟩
noncomputable def lN (kd:Kd):List Nat→List PySem.Expr→Bool
 | [],l=>l.isEmpty
 | x :: xs,l=>(match l with | e :: l=>eT kd x e && lN kd xs l | []=>false)
theorem lT {kd:Kd} {xs:List Nat}:∀ {l:List PySem.Expr},lN kd xs l=true→MNs kd xs l:=by
 induction xs with
 | nil=>intro l h; exact List.isEmpty_iff.mp h
 | cons x xs ih=>intro l h; cases l with
  | nil=>exact no h
  | cons e l=>
   refine zA (aw h) fun h1 h2=>?_
   refine zEA (dl h1) fun p gR0 h3=>?_
   subst gR0
   exact ⟨p,l,rfl,h3,ih h2⟩
noncomputable def lY (kd:Kd) (xs:List Nat) (e:PySem.Expr):Bool:=match xs with
 | [x]=>eT kd x e
 | _=>Nat.beq (vw e).tag 19 && (Nat.ble 2 xs.length && lN kd xs (vw e).l)
theorem iD {kd:Kd} {xs:List Nat} {e:PySem.Expr} (h:lY kd xs e=true):MT kd xs e:=by
 have k:(Nat.beq (vw e).tag 19 && (Nat.ble 2 xs.length && lN kd xs (vw e).l))=true→MT kd xs e:=fun h=>by
  refine zA (aw h) fun h1 h2=>?_
  refine zA (aw h2) fun h2 h3=>?_
  exact .inr ⟨_,_,_,Nat.le_of_ble_eq_true h2,inv h1,lT h3⟩
 cases xs with
 | nil=>exact k h
 | cons x xs=>cases xs with
  | cons=>exact k h
  | nil=>obtain ⟨p,h1,h2⟩:=dl h; exact .inl ⟨x,p,rfl,h1,h2⟩
mutual
noncomputable def bg:PE→Kd→PySem.Expr→Bool
 | .bad,_,_=>true
 | .none,_,x=>Nat.beq (vw x).tag 2
 | .bool b,_,x=>Nat.beq (vw x).tag (cond b 3 4)
 | .int i,_,x=>Nat.beq (vw x).tag 5 && decide ((vw x).i=i)
 | .str s,_,x=>Nat.beq (vw x).tag 6 && decide (s=(vw x).s.cps.toList)
 | .loc n,kd,x=>Nat.beq (vw x).tag 1 && (k9 n (vw x).s && (own? (kd (vw x).s) && !fz (vw x).s))
 | .glb n,kd,x=>Nat.beq (vw x).tag 1 && (k9 n (vw x).s && (sX (kd (vw x).s) && !fz (vw x).s))
 | .attr o a,kd,x=>Nat.beq (vw x).tag 7 && (k9 a (vw x).s && (dg (vw x).a && bg o kd (vw x).a))
 | .call f l,kd,x=>Nat.beq (vw x).tag 8 && (Nat.beq (vw (vw x).a).tag 1 && (bg f kd (vw x).a && dF l kd (vw x).l))
 | .meth o m l,kd,x=>Nat.beq (vw x).tag 8 && (Nat.beq (vw (vw x).a).tag 7 && (k9 m (vw (vw x).a).s && (dg (vw (vw x).a).a && (((vw (vw x).a).p.endLine == (vw x).p.line) && (Nat.blt (eJ l) 29 && (bg o kd (vw (vw x).a).a && dF l kd (vw x).l))))))
 | .bin op l r,kd,x=>Nat.beq (vw x).tag 9 && (decide ((vw x).bop=op.op) && (bg l kd (vw x).a && bg r kd (vw x).b))
 | .cmp op l r,kd,x=>Nat.beq (vw x).tag 10 && (decide ((vw x).cop=op.op) && (!behindInMarks op.op (vw x).b && (bg l kd (vw x).a && bg r kd (vw x).b)))
 | .cmp2 l o1 r o2 z,kd,x=>Nat.beq (vw x).tag 23 && (decide ((vw x).cop=o1.op) && (decide ((vw x).cop2=o2.op) && (!behindInMarks o1.op (vw x).b && (!behindInMarks o2.op (vw x).d && (bg l kd (vw x).a && (bg r kd (vw x).b && bg z kd (vw x).d))))))
 | .and l,kd,x=>Nat.beq (vw x).tag 11 && dF l kd (vw x).l
 | .or l,kd,x=>Nat.beq (vw x).tag 12 && dF l kd (vw x).l
 | .not e,kd,x=>Nat.beq (vw x).tag 13 && bg e kd (vw x).a
 | .neg e,kd,x=>Nat.beq (vw x).tag 14 && bg e kd (vw x).a
 | .sub o i,kd,x=>Nat.beq (vw x).tag 15 && (nu (vw x).b && (bg o kd (vw x).a && bg i kd (vw x).b))
 | .slice o up i,kd,x=>Nat.beq (vw x).tag 15 && (Nat.beq (vw (vw x).b).tag (cond up 17 16) && (bg o kd (vw x).a && bg i kd (vw (vw x).b).a))
 | .list l,kd,x=>Nat.beq (vw x).tag 18 && (Nat.blt (eJ l) 1000 && dF l kd (vw x).l)
 | .tuple l,kd,x=>Nat.beq (vw x).tag 19 && (Nat.blt (eJ l) 1000 && dF l kd (vw x).l)
 | .dict l,kd,x=>Nat.beq (vw x).tag 20 && (Nat.ble (eJ l) 30 && qI l kd (vw x).ks (vw x).l)
 | .listc v xs it ifs,kd,x=>(match (vw x).sc with
  | some sc=>Nat.beq (vw x).tag 21 && (decide ((vw x).i=0) && (cP (vw x).b && (dm kd sc xs && (lY (kdC kd sc) xs (vw x).t && (bg it kd (vw x).b && (bg v (kdC kd sc) (vw x).a && dF ifs (kdC kd sc) (vw x).m))))))
  | none=>false)
 | .dictc k v n it ifs,kd,x=>(match (vw x).sc with
  | some sc=>Nat.beq (vw x).tag 22 && (decide ((vw x).i=0) && (cP (vw x).b && (dm kd sc [n] && (lY (kdC kd sc) [n] (vw x).t && (bg it kd (vw x).b && (bg k (kdC kd sc) (vw x).a && (bg v (kdC kd sc) (vw x).d && dF ifs (kdC kd sc) (vw x).m)))))))
  | none=>false)
 | .setc v n it ifs,kd,x=>(match (vw x).sc with
  | some sc=>Nat.beq (vw x).tag 24 && (decide ((vw x).i=0) && (cP (vw x).b && (dm kd sc [n] && (lY (kdC kd sc) [n] (vw x).t && (bg it kd (vw x).b && (bg v (kdC kd sc) (vw x).a && dF ifs (kdC kd sc) (vw x).m))))))
  | none=>false)
noncomputable def dF:PEs→Kd→List PySem.Expr→Bool
 | .nil,_,l=>l.isEmpty
 | .cons e l,kd,x=>(match x with | e' :: l'=>noStar e' && (bg e kd e' && dF l kd l') | []=>false)
noncomputable def qI:PEs→Kd→List (Option PySem.Expr)→List PySem.Expr→Bool
 | .nil,_,ks,vs=>ks.isEmpty && vs.isEmpty
 | .cons k .nil,_,_,_=>false
 | .cons k (.cons v l),kd,ks,vs=>(match ks with | some k' :: ks'=>(match vs with | v' :: vs'=>bg k kd k' && (bg v kd v' && qI l kd ks' vs') | []=>false) | _=>false)
end
mutual
theorem aG:∀ (p:PE) {kd:Kd} {x:PySem.Expr},bg p kd x=true→ME p kd x
 | .bad,_,_,_=>trivial
 | .none,kd,x,h=>⟨_,_,inv h⟩
 | .bool b,kd,x,h=>by cases b <;> exact ⟨_,_,inv h⟩
 | .int i,kd,x,h=>by
  refine zA (aw h) fun h1 h2=>?_
  have:=of_decide_eq_true h2; subst this
  exact ⟨_,_,inv h1⟩
 | .str s,kd,x,h=>by
  refine zA (aw h) fun h1 h2=>?_
  have:=of_decide_eq_true h2; subst this
  exact ⟨_,_,inv h1⟩
 | .loc n,kd,x,h=>by
  refine zA (aw h) fun h1 h2=>?_
  refine zA (aw h2) fun h2 h3=>?_
  refine zA (aw h3) fun h3 h4=>?_
  have e:x=.Name (vw x).s _:=inv h1
  rw [dK h2] at h3 h4 e
  exact ⟨_,e,h3,fy h4⟩
 | .glb n,kd,x,h=>by
  refine zA (aw h) fun h1 h2=>?_
  refine zA (aw h2) fun h2 h3=>?_
  refine zA (aw h3) fun h3 h4=>?_
  have e:x=.Name (vw x).s _:=inv h1
  rw [dK h2] at h3 h4 e
  exact ⟨_,e,m5 h3,fy h4⟩
 | .attr o a,kd,x,h=>by
  refine zA (aw h) fun h1 h2=>?_
  refine zA (aw h2) fun h2 h3=>?_
  refine zA (aw h3) fun h3 h4=>?_
  have e:x=.Attribute _ (vw x).s _:=inv h1
  rw [dK h2] at e
  exact ⟨_,_,e,aG o h4,h3⟩
 | .call f l,kd,x,h=>by
  refine zA (aw h) fun h1 h2=>?_
  refine zA (aw h2) fun h2 h3=>?_
  refine zA (aw h3) fun h3 h4=>?_
  exact ⟨_,_,_,inv h1,⟨_,_,inv h2⟩,aG f h3,cm l h4⟩
 | .meth o m l,kd,x,h=>by
  refine gp fun gP gH=>?_
  refine zA (aw h) fun h1 h2=>?_
  refine zA (aw h2) fun h2 h3=>?_
  refine zA (aw h3) fun h3 h4=>?_
  refine zA (aw h4) fun h4 h5=>?_
  refine zA (aw h5) fun h5 h6=>?_
  refine zA (aw h6) fun h6 h7=>?_
  refine zA (aw h7) fun h7 h8=>?_
  apply gH;clear gH
  have e:x=.Call (vw x).a _ _ _:=inv h1
  have e2:(vw x).a=.Attribute _ (vw (vw x).a).s _:=inv h2
  rw [dK h3] at e2
  exact ⟨_,_,_,_,e.trans (congrArg (PySem.Expr.Call · _ _ _) e2),aG o h7,h4,cm l h8,h5,Nat.le_of_ble_eq_true h6⟩
 | .bin op l r,kd,x,h=>by
  refine zA (aw h) fun h1 h2=>?_
  refine zA (aw h2) fun h2 h3=>?_
  refine zA (aw h3) fun h3 h4=>?_
  have e:x=.BinOp _ (vw x).bop _ _:=inv h1
  rw [of_decide_eq_true h2] at e
  exact ⟨_,_,_,e,aG l h3,aG r h4⟩
 | .cmp op l r,kd,x,h=>by
  refine gp fun gP gH=>?_
  refine zA (aw h) fun h1 h2=>?_
  refine zA (aw h2) fun h2 h3=>?_
  refine zA (aw h3) fun h3 h4=>?_
  refine zA (aw h4) fun h4 h5=>?_
  apply gH;clear gH
  have e:x=.Compare _ [(vw x).cop] _ _:=inv h1
  rw [of_decide_eq_true h2] at e
  exact ⟨_,_,_,e,aG l h4,aG r h5,fy h3⟩
 | .cmp2 l o1 r o2 z,kd,x,h=>by
  refine gp fun gP gH=>?_
  refine zA (aw h) fun h1 h=>?_
  refine zA (aw h) fun h2 h=>?_
  refine zA (aw h) fun h3 h=>?_
  refine zA (aw h) fun h4 h=>?_
  refine zA (aw h) fun h5 h=>?_
  refine zA (aw h) fun h6 h=>?_
  refine zA (aw h) fun h7 h8=>?_
  apply gH;clear gH
  have e:x=.Compare _ [(vw x).cop,(vw x).cop2] _ _:=inv h1
  rw [of_decide_eq_true h2,of_decide_eq_true h3] at e
  exact ⟨_,_,_,_,e,aG l h6,aG r h7,aG z h8,fy h4,fy h5⟩
 | .and l,kd,x,h=>let ⟨h1,h2⟩:=aw h; ⟨_,_,inv h1,cm l h2⟩
 | .or l,kd,x,h=>let ⟨h1,h2⟩:=aw h; ⟨_,_,inv h1,cm l h2⟩
 | .not e,kd,x,h=>let ⟨h1,h2⟩:=aw h; ⟨_,_,inv h1,aG e h2⟩
 | .neg e,kd,x,h=>let ⟨h1,h2⟩:=aw h; ⟨_,_,inv h1,aG e h2⟩
 | .sub o i,kd,x,h=>by
  refine zA (aw h) fun h1 h2=>?_
  refine zA (aw h2) fun h2 h3=>?_
  refine zA (aw h3) fun h3 h4=>?_
  exact ⟨_,_,_,inv h1,aG o h3,aG i h4,h2⟩
 | .slice o up i,kd,x,h=>by
  refine zA (aw h) fun h1 h2=>?_
  refine zA (aw h2) fun h2 h3=>?_
  refine zA (aw h3) fun h3 h4=>?_
  have e:x=.Subscript _ (vw x).b _:=inv h1
  have e2:(vw x).b=cond up (.Slice none (some (vw (vw x).b).a) none (vw (vw x).b).p) (.Slice (some (vw (vw x).b).a) none none (vw (vw x).b).p):=by
   cases up <;> exact inv h2
  exact ⟨_,_,_,_,e.trans (congrArg (PySem.Expr.Subscript _ · _) e2),aG o h3,aG i h4⟩
 | .list l,kd,x,h=>by
  refine zA (aw h) fun h1 h2=>?_
  refine zA (aw h2) fun h2 h3=>?_
  exact ⟨_,_,inv h1,cm l h3,Nat.le_of_ble_eq_true h2⟩
 | .tuple l,kd,x,h=>by
  refine zA (aw h) fun h1 h2=>?_
  refine zA (aw h2) fun h2 h3=>?_
  exact ⟨_,_,_,inv h1,cm l h3,Nat.le_of_ble_eq_true h2⟩
 | .dict l,kd,x,h=>by
  refine zA (aw h) fun h1 h2=>?_
  refine zA (aw h2) fun h2 h3=>?_
  exact ⟨_,_,_,inv h1,lV l h3,Nat.le_of_ble_eq_true h2⟩
 | .listc v xs it ifs,kd,x,h=>by
  have k:∀ o,(vw x).sc=o→(match o with | some sc=>Nat.beq (vw x).tag 21 && (decide ((vw x).i=0) && (cP (vw x).b && (dm kd sc xs && (lY (kdC kd sc) xs (vw x).t && (bg it kd (vw x).b && (bg v (kdC kd sc) (vw x).a && dF ifs (kdC kd sc) (vw x).m)))))) | none=>false)=true→ME (.listc v xs it ifs) kd x:=fun o q h=>by
   cases o with
   | none=>exact no h
   | some sc=>
    refine gp fun gP gH=>?_
    refine zA (aw h) fun h1 h2=>?_
    refine zA (aw h2) fun h2 h3=>?_
    refine zA (aw h3) fun h3 h4=>?_
    refine zA (aw h4) fun h4 h5=>?_
    refine zA (aw h5) fun h5 h6=>?_
    refine zA (aw h6) fun h6 h7=>?_
    refine zA (aw h7) fun h7 h8=>?_
    apply gH;clear gH
    have e:x=(match (vw x).sc with | some sc=>.ListComp (vw x).a [⟨(vw x).t,(vw x).b,(vw x).m,(vw x).i⟩] sc (vw x).p | none=>x):=inv h1
    rw [q,of_decide_eq_true h2] at e
    exact ⟨_,_,_,_,_,_,e,aG it h6,h3,h4,aG v h7,iD h5,cm ifs h8⟩
  exact k _ rfl h
 | .dictc y v n it ifs,kd,x,h=>by
  have k:∀ o,(vw x).sc=o→(match o with | some sc=>Nat.beq (vw x).tag 22 && (decide ((vw x).i=0) && (cP (vw x).b && (dm kd sc [n] && (lY (kdC kd sc) [n] (vw x).t && (bg it kd (vw x).b && (bg y (kdC kd sc) (vw x).a && (bg v (kdC kd sc) (vw x).d && dF ifs (kdC kd sc) (vw x).m))))))) | none=>false)=true→ME (.dictc y v n it ifs) kd x:=fun o q h=>by
   cases o with
   | none=>exact no h
   | some sc=>
    refine gp fun gP gH=>?_
    refine zA (aw h) fun h1 h2=>?_
    refine zA (aw h2) fun h2 h3=>?_
    refine zA (aw h3) fun h3 h4=>?_
    refine zA (aw h4) fun h4 h5=>?_
    refine zA (aw h5) fun h5 h6=>?_
    refine zA (aw h6) fun h6 h7=>?_
    refine zA (aw h7) fun h7 h8=>?_
    refine zA (aw h8) fun h8 h9=>?_
    apply gH;clear gH
    have e:x=(match (vw x).sc with | some sc=>.DictComp (vw x).a (vw x).d [⟨(vw x).t,(vw x).b,(vw x).m,(vw x).i⟩] sc (vw x).p | none=>x):=inv h1
    rw [q,of_decide_eq_true h2] at e
    exact ⟨_,_,_,_,_,_,_,e,aG it h6,h3,h4,aG y h7,aG v h8,iD h5,cm ifs h9⟩
  exact k _ rfl h
 | .setc v n it ifs,kd,x,h=>by
  have k:∀ o,(vw x).sc=o→(match o with | some sc=>Nat.beq (vw x).tag 24 && (decide ((vw x).i=0) && (cP (vw x).b && (dm kd sc [n] && (lY (kdC kd sc) [n] (vw x).t && (bg it kd (vw x).b && (bg v (kdC kd sc) (vw x).a && dF ifs (kdC kd sc) (vw x).m)))))) | none=>false)=true→ME (.setc v n it ifs) kd x:=fun o q h=>by
   cases o with
   | none=>exact no h
   | some sc=>
    refine gp fun gP gH=>?_
    refine zA (aw h) fun h1 h2=>?_
    refine zA (aw h2) fun h2 h3=>?_
    refine zA (aw h3) fun h3 h4=>?_
    refine zA (aw h4) fun h4 h5=>?_
    refine zA (aw h5) fun h5 h6=>?_
    refine zA (aw h6) fun h6 h7=>?_
    refine zA (aw h7) fun h7 h8=>?_
    apply gH;clear gH
    have e:x=(match (vw x).sc with | some sc=>.SetComp (vw x).a [⟨(vw x).t,(vw x).b,(vw x).m,(vw x).i⟩] sc (vw x).p | none=>x):=inv h1
    rw [q,of_decide_eq_true h2] at e
    exact ⟨_,_,_,_,_,_,e,aG it h6,h3,h4,aG v h7,iD h5,cm ifs h8⟩
  exact k _ rfl h
theorem cm:∀ (p:PEs) {kd:Kd} {x:List PySem.Expr},dF p kd x=true→MEs p kd x
 | .nil,kd,x,h=>List.isEmpty_iff.mp h
 | .cons e l,kd,x,h=>by
  cases x with
  | nil=>exact no h
  | cons e' l'=>
   refine zA (aw h) fun h1 h2=>?_
   refine zA (aw h2) fun h2 h3=>?_
   exact ⟨_,_,rfl,aG e h2,cm l h3,h1⟩
theorem lV:∀ (p:PEs) {kd:Kd} {ks:List (Option PySem.Expr)} {vs:List PySem.Expr},qI p kd ks vs=true→MPs p kd ks vs
 | .nil,kd,ks,vs,h=>let ⟨h1,h2⟩:=aw h; ⟨List.isEmpty_iff.mp h1,List.isEmpty_iff.mp h2⟩
 | .cons k .nil,kd,ks,vs,h=>no h
 | .cons k (.cons v l),kd,ks,vs,h=>by
  cases ks with
  | nil=>exact no h
  | cons k' ks=>cases k' with
   | none=>exact no h
   | some k'=>cases vs with
    | nil=>exact no h
    | cons v' vs=>
     refine zA (aw h) fun h1 h2=>?_
     refine zA (aw h2) fun h2 h3=>?_
     exact ⟨_,_,_,_,rfl,rfl,aG k h1,aG v h2,lV l h3⟩
end
noncomputable def iy:List Nat→List Str→Bool
 | [],l=>l.isEmpty
 | x :: xs,l=>(match l with | y :: ys=>k9 x y && iy xs ys | []=>false)
theorem iV {xs:List Nat}:∀ {ys:List Str},iy xs ys=true→ys=xs.map nmS:=by
 induction xs with
 | nil=>intro ys h; exact List.isEmpty_iff.mp h
 | cons x xs ih=>intro ys h; cases ys with
  | nil=>exact no h
  | cons y ys=>
   refine zA (aw h) fun h1 h2=>?_
   rw [dK h1,ih h2]; rfl
noncomputable def qQ (xs:List Nat):Option (List Str)→Bool
 | some ys=>iy xs ys
 | none=>false
theorem pV {o:Option (List Str)} {xs:List Nat} (h:qQ xs o=true):o=some (xs.map nmS):=by
 cases o with
 | none=>exact no h
 | some ys=>rw [iV h]
structure W where
 tag:Nat
 p:Pos
 a:Option PySem.Expr
 t:Option PySem.Expr
 l:List Stmt
 m:List Stmt
 h:Option (ExceptHandler × List ExceptHandler)
noncomputable def sw (x:Stmt):W:=match x with
 | .Pass p=>⟨1,p,none,none,[],[],none⟩
 | .Return none p=>⟨2,p,none,none,[],[],none⟩
 | .Return (some e) p=>⟨3,p,some e,none,[],[],none⟩
 | .Expr e p=>⟨4,p,some e,none,[],[],none⟩
 | .Assign [t] e p=>⟨5,p,some e,some t,[],[],none⟩
 | .Delete [t] p=>⟨6,p,none,some t,[],[],none⟩
 | .If t b e p=>⟨7,p,none,some t,b,e,none⟩
 | .While t b [] p=>⟨8,p,none,some t,b,[],none⟩
 | .For t it b [] p=>⟨9,p,some it,some t,b,[],none⟩
 | .Try b (h :: hs) [] [] p=>⟨10,p,none,none,b,[],some (h,hs)⟩
 | .Raise (some e) none p=>⟨11,p,some e,none,[],[],none⟩
 | .Raise none none p=>⟨12,p,none,none,[],[],none⟩
 | _=>⟨0,⟨0,0,0,0⟩,none,none,[],[],none⟩
noncomputable def sk (t:Nat) (w:W) (x:Stmt):Stmt:=match t with
 | 1=>.Pass w.p
 | 2=>.Return none w.p
 | 3=>(match w.a with | some e=>.Return (some e) w.p | none=>x)
 | 4=>(match w.a with | some e=>.Expr e w.p | none=>x)
 | 5=>(match w.a with | some e=>(match w.t with | some t=>.Assign [t] e w.p | none=>x) | none=>x)
 | 6=>(match w.t with | some t=>.Delete [t] w.p | none=>x)
 | 7=>(match w.t with | some t=>.If t w.l w.m w.p | none=>x)
 | 8=>(match w.t with | some t=>.While t w.l [] w.p | none=>x)
 | 9=>(match w.a with | some e=>(match w.t with | some t=>.For t e w.l [] w.p | none=>x) | none=>x)
 | 11=>(match w.a with | some e=>.Raise (some e) none w.p | none=>x)
 | 12=>.Raise none none w.p
 | 10=>(match w.h with | some h=>.Try w.l (h.1 :: h.2) [] [] w.p | none=>x)
 | _=>x
theorem xX (x:Stmt):x=sk (sw x).tag (sw x) x:=by
 cases x with
 | Return e p=>cases e <;> rfl
 | Assign ts e p=>cases ts with
  | nil=>rfl
  | cons t ts=>cases ts <;> rfl
 | Delete ts p=>cases ts with
  | nil=>rfl
  | cons t ts=>cases ts <;> rfl
 | While t b e p=>cases e <;> rfl
 | For t it b e p=>cases e <;> rfl
 | Try b hs e f p=>cases hs with
  | nil=>rfl
  | cons h hs=>cases e with
   | cons=>rfl
   | nil=>cases f <;> rfl
 | Raise e f p=>cases e <;> cases f <;> rfl
 | _=>rfl
theorem ir {x:Stmt} {t:Nat} (h:Nat.beq (sw x).tag t=true):x=sk t (sw x) x:=(xX x).trans (by rw [Nat.eq_of_beq_eq_true h])
noncomputable def hv (h:ExceptHandler):Option (PySem.Expr × Str × List Stmt × Pos):=match h with
 | .ExceptHandler (some t) (some n) b p=>some (t,n,b,p)
 | _=>none
theorem xL {h:ExceptHandler} {q:PySem.Expr × Str × List Stmt × Pos} (e:hv h=some q):h=.ExceptHandler (some q.1) (some q.2.1) q.2.2.1 q.2.2.2:=by
 refine gp fun gP gH=>?_
 obtain ⟨t,n,b,p⟩:=h
 apply gH;clear gH
 cases t <;> cases n <;> cases e
 rfl
noncomputable def onE (f:PySem.Expr→Bool):Option PySem.Expr→Bool
 | some e=>f e
 | none=>false
theorem bz {f:PySem.Expr→Bool} {o:Option PySem.Expr} (h:onE f o=true):∃ e,o=some e∧f e=true:=by
 cases o with
 | none=>exact no h
 | some e=>exact ⟨e,rfl,h⟩
mutual
noncomputable def vK:PS→Kd→Stmt→Bool
 | .bad,_,_=>true
 | .pass,_,x=>Nat.beq (sw x).tag 1
 | .ret0,_,x=>Nat.beq (sw x).tag 2
 | .ret e,kd,x=>Nat.beq (sw x).tag 3 && onE (bg e kd) (sw x).a
 | .expr e,kd,x=>Nat.beq (sw x).tag 4 && onE (fun e'=>dU e' && bg e kd e') (sw x).a
 | .asg n e,kd,x=>Nat.beq (sw x).tag 5 && (onE (fun e'=>(dU e' || kd (nmS n) == some .cell) && bg e kd e') (sw x).a && onE (eT kd n) (sw x).t)
 | .asgC n v xs it ifs,kd,x=>Nat.beq (sw x).tag 5 && onE (fun e'=>bg (.listc v xs it ifs) kd e' && onE (fun t=>eT kd n t && swp kd e' (nmS n) t.pos) (sw x).t) (sw x).a
 | .asgE n v y it ifs,kd,x=>Nat.beq (sw x).tag 5 && onE (fun e'=>bg (.setc v y it ifs) kd e' && onE (fun t=>eT kd n t && wG kd e' (nmS n) t.pos) (sw x).t) (sw x).a
 | .asgA o a e,kd,x=>Nat.beq (sw x).tag 5 && (onE (bg e kd) (sw x).a && onE (fun t=>Nat.beq (vw t).tag 7 && (k9 a (vw t).s && bg o kd (vw t).a)) (sw x).t)
 | .asgS o i e,kd,x=>Nat.beq (sw x).tag 5 && (onE (fun e'=>dU e' && bg e kd e') (sw x).a && onE (fun t=>Nat.beq (vw t).tag 15 && (bg o kd (vw t).a && bg i kd (vw t).b)) (sw x).t)
 | .asgT xs e,kd,x=>Nat.beq (sw x).tag 5 && (onE (fun e'=>qN e' && bg e kd e') (sw x).a && onE (fun t=>Nat.beq (vw t).tag 19 && (Nat.ble 2 xs.length && lN kd xs (vw t).l)) (sw x).t)
 | .asgW xs e,kd,x=>Nat.beq (sw x).tag 5 && (onE (fun e'=>Nat.beq (vw e').tag 19 && (bg e kd e' && onE (fun t=>Nat.beq (vw t).tag 19 && qQ xs (j0 kd (vw t).l (vw e').l)) (sw x).t)) (sw x).a)
 | .delS o i,kd,x=>Nat.beq (sw x).tag 6 && onE (fun t=>Nat.beq (vw t).tag 15 && (bg o kd (vw t).a && bg i kd (vw t).b)) (sw x).t
 | .ite t b e,kd,x=>Nat.beq (sw x).tag 7 && (onE (bg t kd) (sw x).t && (gm b kd (sw x).l && gm e kd (sw x).m))
 | .whl t b,kd,x=>Nat.beq (sw x).tag 8 && (onE (bg t kd) (sw x).t && gm b kd (sw x).l)
 | .for1 xs it b,kd,x=>Nat.beq (sw x).tag 9 && (onE (fun e=>cP e && bg it kd e) (sw x).a && (onE (lY kd xs) (sw x).t && gm b kd (sw x).l))
 | .try b cl y h,kd,x=>Nat.beq (sw x).tag 10 && ((match (sw x).h with
   | some g=>g.2.isEmpty && (match hv g.1 with
    | some q=>Nat.beq (vw q.1).tag 1 && (k9 cl (vw q.1).s && (sX (kd (vw q.1).s) && (!fz (vw q.1).s && (k9 y q.2.1 && (kd (nmS y) == some .local && gm h kd q.2.2.1)))))
    | none=>false)
   | none=>false) && gm b kd (sw x).l)
 | .raise e,kd,x=>Nat.beq (sw x).tag 11 && onE (bg e kd) (sw x).a
 | .reraise,_,x=>Nat.beq (sw x).tag 12
noncomputable def gm:PSs→Kd→List Stmt→Bool
 | .nil,_,l=>l.isEmpty
 | .cons e l,kd,x=>(match x with | e' :: l'=>vK e kd e' && gm l kd l' | []=>false)
end
theorem nW {x:Stmt} {e t:PySem.Expr} (h:Nat.beq (sw x).tag 5=true) (q1:(sw x).a=some e) (q2:(sw x).t=some t):x=.Assign [t] e (sw x).p:=by
 have z:x=(match (sw x).a with | some e=>(match (sw x).t with | some t=>.Assign [t] e (sw x).p | none=>x) | none=>x):=ir h
 rw [q1,q2] at z
 exact z
mutual
theorem qU:∀ (p:PS) {kd:Kd} {x:Stmt},vK p kd x=true→MS p kd x
 | .bad,_,_,_=>trivial
 | .pass,kd,x,h=>⟨_,ir h⟩
 | .ret0,kd,x,h=>⟨_,ir h⟩
 | .ret e,kd,x,h=>by
  refine zA (aw h) fun h1 h2=>?_
  refine zEA (bz h2) fun e' q h2=>?_
  have z:x=(match (sw x).a with | some e=>.Return (some e) (sw x).p | none=>x):=ir h1
  rw [q] at z
  exact ⟨_,_,z,aG e h2⟩
 | .expr e,kd,x,h=>by
  refine zA (aw h) fun h1 h2=>?_
  refine zEA (bz h2) fun e' q h2=>?_
  refine zA (aw h2) fun h2 h3=>?_
  have z:x=(match (sw x).a with | some e=>.Expr e (sw x).p | none=>x):=ir h1
  rw [q] at z
  exact ⟨_,_,z,aG e h3,h2⟩
 | .asg n e,kd,x,h=>by
  refine gp fun gP gH=>?_
  refine zA (aw h) fun h1 h2=>?_
  refine zA (aw h2) fun h2 h3=>?_
  refine zEA (bz h2) fun e' q h2=>?_
  refine zEA (bz h3) fun t' q' h3=>?_
  refine zA (aw h2) fun h2 h4=>?_
  refine zEA (dl h3) fun np gR0 h5=>?_
  apply gH;clear gH
  subst gR0
  exact ⟨np,e',_,nW h1 q q',aG e h4,((Bool.or_eq_true _ _).mp h2).imp id eq_of_beq,h5⟩
 | .asgC n v xs it ifs,kd,x,h=>by
  refine gp fun gP gH=>?_
  refine zA (aw h) fun h1 h2=>?_
  refine zEA (bz h2) fun e' q h2=>?_
  refine zA (aw h2) fun h2 h3=>?_
  refine zEA (bz h3) fun t' q' h3=>?_
  refine zA (aw h3) fun h3 h4=>?_
  refine zEA (dl h3) fun np gR0 h5=>?_
  apply gH;clear gH
  subst gR0
  exact ⟨np,e',_,nW h1 q q',aG (.listc v xs it ifs) h2,h4⟩
 | .asgE n v y it ifs,kd,x,h=>by
  refine gp fun gP gH=>?_
  refine zA (aw h) fun h1 h2=>?_
  refine zEA (bz h2) fun e' q h2=>?_
  refine zA (aw h2) fun h2 h3=>?_
  refine zEA (bz h3) fun t' q' h3=>?_
  refine zA (aw h3) fun h3 h4=>?_
  refine zEA (dl h3) fun np gR0 h5=>?_
  apply gH;clear gH
  subst gR0
  exact ⟨np,e',_,nW h1 q q',aG (.setc v y it ifs) h2,h4⟩
 | .asgA o a e,kd,x,h=>by
  refine gp fun gP gH=>?_
  refine zA (aw h) fun h1 h2=>?_
  refine zA (aw h2) fun h2 h3=>?_
  refine zEA (bz h2) fun e' q h2=>?_
  refine zEA (bz h3) fun t' q' h3=>?_
  refine zA (aw h3) fun h3 h4=>?_
  refine zA (aw h4) fun h4 h5=>?_
  apply gH;clear gH
  have z:t'=.Attribute _ (vw t').s _:=inv h3
  rw [dK h4] at z
  exact ⟨_,_,_,_,(nW h1 q q').trans (congrArg (fun t=>Stmt.Assign [t] _ _) z),aG o h5,aG e h2⟩
 | .asgS o i e,kd,x,h=>by
  refine gp fun gP gH=>?_
  refine zA (aw h) fun h1 h2=>?_
  refine zA (aw h2) fun h2 h3=>?_
  refine zEA (bz h2) fun e' q h2=>?_
  refine zEA (bz h3) fun t' q' h3=>?_
  refine zA (aw h2) fun h2 h6=>?_
  refine zA (aw h3) fun h3 h4=>?_
  refine zA (aw h4) fun h4 h5=>?_
  apply gH;clear gH
  exact ⟨_,_,_,_,_,(nW h1 q q').trans (congrArg (fun t=>Stmt.Assign [t] _ _) (inv h3)),aG o h4,aG i h5,aG e h6,h2⟩
 | .asgT xs e,kd,x,h=>by
  refine gp fun gP gH=>?_
  refine zA (aw h) fun h1 h2=>?_
  refine zA (aw h2) fun h2 h3=>?_
  refine zEA (bz h2) fun e' q h2=>?_
  refine zEA (bz h3) fun t' q' h3=>?_
  refine zA (aw h2) fun h2 h6=>?_
  refine zA (aw h3) fun h3 h4=>?_
  refine zA (aw h4) fun h4 h5=>?_
  apply gH;clear gH
  exact ⟨_,_,_,_,_,(nW h1 q q').trans (congrArg (fun t=>Stmt.Assign [t] _ _) (inv h3)),aG e h6,lT h5,Nat.le_of_ble_eq_true h4,h2⟩
 | .asgW xs e,kd,x,h=>by
  refine gp fun gP gH=>?_
  refine zA (aw h) fun h1 h2=>?_
  refine zEA (bz h2) fun e' q h2=>?_
  refine zA (aw h2) fun h2 h3=>?_
  refine zA (aw h3) fun h3 h4=>?_
  refine zEA (bz h4) fun t' q' h4=>?_
  refine zA (aw h4) fun h4 h5=>?_
  apply gH;clear gH
  have z:e'=.Tuple _ _ _:=inv h2
  have m:=aG e h3
  have y:=nW h1 q q'
  rw [z] at m
  exact ⟨_,_,_,_,_,_,_,y.trans ((congrArg (fun t=>Stmt.Assign [t] _ _) (inv h4)).trans (congrArg (fun t=>Stmt.Assign _ t _) z)),m,pV h5⟩
 | .delS o i,kd,x,h=>by
  refine gp fun gP gH=>?_
  refine zA (aw h) fun h1 h2=>?_
  refine zEA (bz h2) fun t' q' h3=>?_
  refine zA (aw h3) fun h3 h4=>?_
  refine zA (aw h4) fun h4 h5=>?_
  apply gH;clear gH
  have z:x=(match (sw x).t with | some t=>.Delete [t] (sw x).p | none=>x):=ir h1
  rw [q'] at z
  exact ⟨_,_,_,_,z.trans (congrArg (fun t=>Stmt.Delete [t] _) (inv h3)),aG o h4,aG i h5⟩
 | .ite t b e,kd,x,h=>by
  refine gp fun gP gH=>?_
  refine zA (aw h) fun h1 h2=>?_
  refine zA (aw h2) fun h2 h3=>?_
  refine zA (aw h3) fun h3 h4=>?_
  refine zEA (bz h2) fun t' q' h2=>?_
  apply gH;clear gH
  have z:x=(match (sw x).t with | some t=>.If t (sw x).l (sw x).m (sw x).p | none=>x):=ir h1
  rw [q'] at z
  exact ⟨_,_,_,_,z,aG t h2,cM b h3,cM e h4⟩
 | .whl t b,kd,x,h=>by
  refine zA (aw h) fun h1 h2=>?_
  refine zA (aw h2) fun h2 h3=>?_
  refine zEA (bz h2) fun t' q' h2=>?_
  have z:x=(match (sw x).t with | some t=>.While t (sw x).l [] (sw x).p | none=>x):=ir h1
  rw [q'] at z
  exact ⟨_,_,_,z,aG t h2,cM b h3⟩
 | .for1 xs it b,kd,x,h=>by
  refine gp fun gP gH=>?_
  refine zA (aw h) fun h1 h2=>?_
  refine zA (aw h2) fun h2 h3=>?_
  refine zA (aw h3) fun h3 h4=>?_
  refine zEA (bz h2) fun e' q h2=>?_
  refine zEA (bz h3) fun t' q' h3=>?_
  refine zA (aw h2) fun h2 h5=>?_
  apply gH;clear gH
  have z:x=(match (sw x).a with | some e=>(match (sw x).t with | some t=>.For t e (sw x).l [] (sw x).p | none=>x) | none=>x):=ir h1
  rw [q,q'] at z
  exact ⟨_,_,_,_,z,iD h3,aG it h5,h2,cM b h4⟩
 | .try b cl y hd,kd,x,h=>by
  refine zA (aw h) fun h1 h2=>?_
  refine zA (aw h2) fun h2 h3=>?_
  have z:x=(match (sw x).h with | some h=>.Try (sw x).l (h.1 :: h.2) [] [] (sw x).p | none=>x):=ir h1
  cases q:(sw x).h with
  | none=>rw [q] at h2; exact no h2
  | some g=>
   rw [q] at h2 z
   refine zA (aw h2) fun h4 h5=>?_
   cases r:hv g.1 with
   | none=>rw [r] at h5; exact no h5
   | some u=>
    rw [r] at h5
    refine gp fun gP gH=>?_
    refine zA (aw h5) fun h5 h6=>?_
    refine zA (aw h6) fun h6 h7=>?_
    refine zA (aw h7) fun h7 h8=>?_
    refine zA (aw h8) fun h8 h9=>?_
    refine zA (aw h9) fun h9 h10=>?_
    refine zA (aw h10) fun h10 h11=>?_
    apply gH;clear gH
    have e:u.1=.Name (vw u.1).s _:=inv h5
    rw [dK h6] at h7 h8 e
    have e3:=xL r
    rw [e,dK h9] at e3
    have e4:x=.Try (sw x).l (g.1 :: g.2) [] [] (sw x).p:=z
    rw [List.isEmpty_iff.mp h4,e3] at e4
    exact ⟨_,_,_,_,_,e4,cM b h3,cM hd h11,m5 h7,fy h8,eq_of_beq h10⟩
 | .raise e,kd,x,h=>by
  refine zA (aw h) fun h1 h2=>?_
  refine zEA (bz h2) fun e' q h2=>?_
  have z:x=(match (sw x).a with | some e=>.Raise (some e) none (sw x).p | none=>x):=ir h1
  rw [q] at z
  exact ⟨_,_,z,aG e h2⟩
 | .reraise,kd,x,h=>⟨_,ir h⟩
theorem cM:∀ (p:PSs) {kd:Kd} {x:List Stmt},gm p kd x=true→MSs p kd x
 | .nil,kd,x,h=>List.isEmpty_iff.mp h
 | .cons e l,kd,x,h=>by
  cases x with
  | nil=>exact no h
  | cons e' l'=>
   refine zA (aw h) fun h1 h2=>?_
   exact ⟨_,_,rfl,qU e h1,cM l h2⟩
end
theorem jI {α β:Type} {K:Frag} {S:Setting} {f:α→Sem β} {a:α} {m:Sem α}:peek K S m=some a→peek K S (m >>= f)=peek K S (f a):=by
 show peek K S m=some a→peek K S (Sem.bind m f)=_
 induction m with
 | pure b=>intro h; cases h; rfl
 | rule r k ih=>intro h; exact ih () h
 | point r k ih=>intro h; exact ih () h
 | ask k ih=>intro h; exact ih S h
 | load ad p k ih=>
  intro h
  have h:(match K.lookup ad with | some o=>peek K S (k o) | none=>none)=some a:=by
   unfold peek at h; exact h
  cases q:K.lookup ad with
  | none=>rw [q] at h; cases h
  | some o=>
   rw [q] at h
   refine Eq.trans ?_ (ih o h)
   rw [show Sem.bind (Sem.load ad p k) f=Sem.load ad p (fun o=>Sem.bind (k o) f) from rfl]
   simp only [peek,q]
 | _=>intro h; cases h
theorem kr {l:List (Str × Value)} {x:Str} (h:x∉l.map (·.1)):l.lookup x=none:=by
 induction l with
 | nil=>rfl
 | cons p l ih=>
  rw [List.map_cons,List.mem_cons,not_or] at h
  rw [List.lookup_cons,beq_false_of_ne h.1]
  exact ih h.2
theorem qW (l:List (Str × Value)):∀ (pre:List (Str × Value)),(∀ p∈l,p.1∉pre.map (·.1))→(l.map (·.1)).Nodup→(l.map (·.1)).filterMap (fun n=>((pre ++ l).lookup n).map (n,·))=l:=by
 induction l with
 | nil=>intro pre _ _; rfl
 | cons p l ih=>
  obtain ⟨y,v⟩:=p
  intro pre h1 h2
  rw [List.map_cons,List.nodup_cons] at h2
  have e:(pre ++ (y,v) :: l).lookup y=some v:=by
   rw [List.lookup_append,kr (h1 (y,v) (.head _)),List.lookup_cons,beq_self_eq_true]; rfl
  rw [List.map_cons,List.filterMap_cons,e]
  have:=ih (pre ++ [(y,v)]) (fun p hp=>by
   rw [List.map_append,List.mem_append]
   rintro (h | h)
   ·exact h1 p (.tail _ hp) h
   ·have e:p.1=y:=List.mem_singleton.mp h
    have m:p.1∈l.map (·.1):=List.mem_map_of_mem hp
    rw [e] at m
    exact h2.1 m) h2.2
  rw [List.append_assoc] at this
  exact congrArg ((y,v) :: ·) this
theorem qj {ps:List Nat}:∀ {vals ds:List Value} {k:Nat} {b:List (Str × Value)},d7 ps vals ds k=some b→vals.length≤ps.length∧(vals.length<ps.length→k≤vals.length)∧∃ r r2,ds=r ++ r2∧b=(ps.map nmS).zip (vals ++ r)∧r.length+vals.length=ps.length:=by
 induction ps with
 | nil=>intro vals ds k b e; cases vals with
  | nil=>cases e; exact ⟨Nat.le_refl _,fun h=>absurd h (Nat.lt_irrefl _),[],ds,rfl,rfl,rfl⟩
  | cons=>cases e
 | cons x xs ih=>intro vals ds k b e; cases vals with
  | cons a as=>
   have e:(match d7 xs as ds (k - 1) with | some l=>some ((nmS x,a) :: l) | none=>none)=some b:=e
   cases q:d7 xs as ds (k - 1) with
   | none=>rw [q] at e; cases e
   | some l=>
    rw [q] at e
    cases e
    refine zAAEEAA (ih q) fun h1 h2 r r2 h3 h4 h5=>?_
    refine ⟨Nat.succ_le_succ h1,fun h=>?_,r,r2,h3,by rw [h4]; rfl,by rw [List.length_cons,List.length_cons,← h5]; rfl⟩
    have:=h2 (Nat.lt_of_succ_lt_succ h)
    exact Nat.le_add_of_sub_le this
  | nil=>
   cases q:Nat.beq k 0 with
   | false=>
    have e:(match Nat.beq k 0 with | true=>_ | false=>none)=some b:=e
    rw [q] at e; cases e
   | true=>cases ds with
    | nil=>
     have e:(match Nat.beq k 0 with | true=>none | false=>none)=some b:=e
     rw [q] at e; cases e
    | cons v ds=>
     have e:(match Nat.beq k 0 with | true=>(match d7 xs [] ds 0 with | some l=>some ((nmS x,v) :: l) | none=>none) | false=>none)=some b:=e
     rw [q] at e
     cases q':d7 xs [] ds 0 with
     | none=>rw [q'] at e; cases e
     | some l=>
      rw [q'] at e
      cases e
      refine zAAEEAA (ih q') fun h1 h2 r r2 h3 h4 h5=>?_
      exact ⟨Nat.zero_le _,fun _=>Nat.le_of_eq (Nat.eq_of_beq_eq_true q),v :: r,r2,by rw [h3]; rfl,by rw [h4]; rfl,by rw [List.length_cons,List.length_cons,← h5]; rfl⟩
structure xW (p:Arguments) (names:List Str):Prop where
 po:p.posonlyargs=[]
 args:p.args.map (·.arg)=names
 va:p.vararg=none
 ko:p.kwonlyargs=[]
 kw:p.kwarg=none
noncomputable def fu (s:List (Str × Value)) (p:Str × Value):List (Str × Value):=if (s.lookup p.1).isNone then s ++ [p] else s
theorem rk (l:List (Str × Value)):∀ (sl:List (Str × Value)),(sl.map (·.1) ++ l.map (·.1)).Nodup→l.foldl fu sl=sl ++ l:=by
 induction l with
 | nil=>intro sl _; exact (List.append_nil _).symm
 | cons p l ih=>
  intro sl nd
  have hn:p.1∉sl.map (·.1):=fun h=>(List.nodup_append.mp nd).2.2 p.1 h p.1 (.head _) rfl
  rw [List.foldl_cons,show fu sl p=sl ++ [p] by unfold fu; rw [kr hn]; rfl,ih,List.append_assoc]
  ·rfl
  ·rw [List.map_append,List.append_assoc]; exact nd
theorem qf (l:List (Str × Value)) (sl:List (Str × Value)) (h:∀ p∈l,(sl.lookup p.1).isNone=false):l.foldl fu sl=sl:=by
 induction l with
 | nil=>rfl
 | cons p l ih=>
  rw [List.foldl_cons,show fu sl p=sl by unfold fu; rw [h p (.head _)]; rfl]
  exact ih fun p hp=>h p (.tail _ hp)
theorem o5 {x:Str} {names:List Str}:∀ {vals:List Value},x∈names.take vals.length→((names.zip vals).lookup x).isNone=false:=by
 induction names with
 | nil=>intro vals h; rw [List.take_nil] at h; cases h
 | cons y names ih=>intro vals h; cases vals with
  | nil=>cases h
  | cons v vals=>
   rw [List.zip_cons_cons,List.lookup_cons]
   by_cases q:x=y
   ·rw [q,beq_self_eq_true]; rfl
   ·rw [beq_false_of_ne q]
    exact ih ((List.mem_cons.mp h).resolve_left q)
theorem qb {α β:Type} (a:List α):∀ (b:List β),(a.take b.length).zip b=a.zip b:=by
 induction a with
 | nil=>intro b; rw [List.take_nil]
 | cons x a ih=>intro b; cases b with
  | nil=>rw [List.zip_nil_right,List.zip_nil_right]
  | cons y b=>rw [List.length_cons,List.take_succ_cons,List.zip_cons_cons,List.zip_cons_cons,ih b]
theorem lP {α β:Type} (a:List α):∀ (b:List β),(a.zip b).map (·.1)=a.take b.length:=by
 induction a with
 | nil=>intro b; rw [List.take_nil]; rfl
 | cons x a ih=>intro b; cases b with
  | nil=>rfl
  | cons y b=>rw [List.zip_cons_cons,List.map_cons,List.length_cons,List.take_succ_cons,ih b]
theorem jM {α β:Type} (n:Nat):∀ (a:List α) (b:List β),(a.zip b).drop n=(a.drop n).zip (b.drop n)∧(a.zip b).take n=(a.take n).zip (b.take n):=by
 induction n with
 | zero=>exact fun a b=>⟨rfl,rfl⟩
 | succ n ih=>intro a b; cases a with
  | nil=>exact ⟨rfl,rfl⟩
  | cons x a=>cases b with
   | nil=>exact ⟨by rw [List.drop_nil,List.zip_nil_right,List.zip_nil_right,List.drop_nil],by rw [List.take_nil,List.zip_nil_right,List.zip_nil_right,List.take_nil]⟩
   | cons y b=>exact ⟨(ih a b).1,congrArg ((x,y) :: ·) (ih a b).2⟩
theorem ar1 {d p v r r2:Nat} (h:d - (v - (p - d))=r+r2) (h5:r+v=p) (km:p - d≤v) (hl:d≤p):r2=0:=by
 refine gp fun gP gH=>?_
 obtain ⟨e,rfl⟩:=Nat.exists_eq_add_of_le hl
 rw [Nat.add_sub_cancel_left] at h km
 obtain ⟨f,rfl⟩:=Nat.exists_eq_add_of_le km
 apply gH;clear gH
 rw [Nat.add_sub_cancel_left] at h
 have q:r+f=d:=Nat.add_right_cancel (m:=e) (by rw [Nat.add_assoc,Nat.add_comm f e]; exact h5)
 rw [← q,Nat.add_sub_cancel] at h
 exact Nat.left_eq_add.mp h
theorem ar2 {d p v:Nat} (km:p - d≤v):p - d+(v - (p - d))=v:=Nat.add_sub_cancel' km
theorem uX {K:Frag} {fd:FuncData} {ps:List Nat} {dv:List Value} (pl:xW fd.params (ps.map nmS)) (nd:ps.Nodup) (hl:dv.length≤ps.length)
  (hd:∀ S,∃ o,peek K S (seqItems? fd.defaults)=some o∧(o.getD #[]).toList=dv) {vals:List Value} {b:List (Str × Value)}
  (hb:d7 ps vals (dv.drop (vals.length - (ps.length - dv.length))) (ps.length - dv.length)=some b) (S:Setting):peek K S (bindArgs fd ⟨vals,[]⟩)=some b:=by
 refine zAAEEAA (qj hb) fun h1 h2 r r2 h3 h4 h5=>?_
 refine zEA (hd S) fun od g1 g2=>?_
 have nd':(ps.map nmS).Nodup:=List.Pairwise.map nmS (fun a b h e=>h (db e)) nd
 generalize hN:ps.map nmS=names at *
 have ln:names.length=ps.length:=by rw [← hN,LQ]
 refine gp fun gP gH=>?_
 obtain ⟨fn,fq,⟨po,ar,va,ko,kd,kw,df⟩,fb,fs,fg,fc,fdd,fk,x1,x2,x3,x4,x5,x6⟩:=fd
 obtain ⟨p1,p2,p3,p4,p5⟩:=pl
 apply gH;clear gH
 dsimp only at p1 p2 p3 p4 p5 g1
 subst p1; subst p2; subst p3; subst p4; subst p5
 unfold bindArgs
 show peek K S (seqItems? fdd >>= _)=_
 refine (jI g1).trans ?_
 dsimp only
 rw [g2,show List.map (fun x:Arg=>x.arg) [] ++ List.map (fun x:Arg=>x.arg) ar=List.map (fun x:Arg=>x.arg) ar from rfl,List.map_nil,List.append_nil]
 generalize List.map (fun x:Arg=>x.arg) ar=names at *
 have km:ps.length - dv.length≤vals.length:=by
  rcases Nat.lt_or_ge vals.length ps.length with q | q
  ·exact h2 q
  ·exact Nat.le_trans (Nat.sub_le _ _) q
 have e0:dv.drop (dv.length - names.length)=dv:=by rw [Nat.sub_eq_zero_of_le (by rw [ln]; exact hl)]; rfl
 rw [e0]
 have miss:(List.filter (fun n=>((names.zip vals).lookup n).isNone) (names.take (names.length - dv.length)))=[]:=by
  rw [List.filter_eq_nil_iff]
  intro x hx
  rw [o5]
  ·exact Bool.false_ne_true
  ·exact (List.take_subset_take_left names (by rw [ln]; exact km)) hx
 have fold:∀ {f:Str × Value→List (Str × Value)→Sem (ForInStep (List (Str × Value)))} (l:List (Str × Value)),(∀ x b,f x b=pure (.yield (fu b x)))→∀ b,forIn l b f=pure (l.foldl fu b):=by
  intro f l h
  induction l with
  | nil=>exact fun b=>rfl
  | cons x l ih=>intro b; rw [List.forIn_cons,h x b]; exact ih _
 rw [if_neg (by simp; omega),if_neg (by rw [miss]; simp)]
 rw [fold _ (fun x b=>by unfold fu; split <;> rfl)]
 have hr2:r2=[]:=by
  have:=congrArg List.length h3
  rw [List.length_drop,List.length_append] at this
  exact List.eq_nil_of_length_eq_zero (ar1 this h5 km hl)
 subst hr2
 rw [List.append_nil] at h3
 have hfold:((names.drop (names.length - dv.length)).zip dv).foldl fu (names.zip vals)=names.zip (vals ++ r):=by
  have skip:∀ p∈((names.drop (names.length - dv.length)).zip dv).take (vals.length - (names.length - dv.length)),((names.zip vals).lookup p.1).isNone=false:=by
   intro p hp
   refine o5 ?_
   rw [(jM _ _ _).2] at hp
   have:=(List.of_mem_zip hp).1
   rw [List.take_drop] at this
   have:=List.mem_of_mem_drop this
   rw [ar2 (by rw [ln]; exact km)] at this
   exact this
  rw [← List.take_append_drop (vals.length - (names.length - dv.length)) ((names.drop (names.length - dv.length)).zip dv),List.foldl_append,qf _ _ skip]
  ·rw [(jM _ _ _).1,List.drop_drop,ln,h3,ar2 km,rk]
   ·conv=>rhs; rw [← List.take_append_drop vals.length names,List.zip_append (by rw [List.length_take,ln]; exact Nat.min_eq_left h1)]
    rw [qb]
   ·rw [lP,lP]
    refine List.Nodup.sublist ?_ nd'
    conv=>rhs; rw [← List.take_append_drop vals.length names]
    exact List.Sublist.append (List.Sublist.refl _) (List.take_sublist _ _)
 rw [hfold]
 show some ((names.filterMap fun n=>Option.map (fun x=>(n,x)) ((names.zip (vals ++ r)).lookup n)))=some b
 have lz:names.length=(vals ++ r).length:=by rw [List.length_append,ln,Nat.add_comm]; exact h5.symm
 have:=qW (names.zip (vals ++ r)) [] (fun p hp=>by simp) (by rw [List.map_fst_zip (Nat.le_of_eq lz)]; exact nd')
 rw [List.map_fst_zip (Nat.le_of_eq lz)] at this
 rw [h4]
 exact congrArg some this
noncomputable def isV (a:AV) (v:Value):Bool:=match a with
 | .none=>(match v with | .none=>true | _=>false)
 | .bool b=>(match v with | .bool b'=>decide (b'=b) | _=>false)
 | .int i=>(match v with | .int j _=>decide (j=i) | _=>false)
 | .str s=>(match v with | .str x _=>decide (s=x.cps.toList) | _=>false)
 | .obj a=>(match v with | .ref b=>Nat.beq a b | _=>false)
 | .typ t=>(match v with | .type x=>x == t.nm | _=>false)
 | .bi f=>(match v with | .builtin x=>x == f.id | _=>false)
 | .ref _=>false
theorem nP {a:AV} {v:Value} (h:isV a v=true):VR 0 (fun _=>0) a v:=by
 cases a with
 | none=>cases v <;> first | exact no h | rfl
 | bool b=>
  cases v <;> first | exact no h | skip
  exact congrArg Value.bool (of_decide_eq_true h)
 | int i=>
  cases v <;> first | exact no h | skip
  exact ⟨_,congrArg (Value.int · _) (of_decide_eq_true h)⟩
 | str s=>
  cases v <;> first | exact no h | skip
  have:=of_decide_eq_true h; subst this
  exact ⟨_,rfl⟩
 | obj a=>
  cases v <;> first | exact no h | skip
  exact congrArg Value.ref (Nat.eq_of_beq_eq_true h).symm
 | typ t=>
  cases v <;> first | exact no h | skip
  exact congrArg Value.type (eq_of_beq h)
 | bi f=>
  cases v <;> first | exact no h | skip
  exact congrArg Value.builtin (eq_of_beq h)
 | ref=>exact no h
noncomputable def sP:List AV→List Value→Bool
 | [],l=>l.isEmpty
 | a :: as,l=>(match l with | v :: vs=>isV a v && sP as vs | []=>false)
theorem kQ {a:List AV}:∀ {v:List Value},sP a v=true→VRs 0 (fun _=>0) a v:=by
 induction a with
 | nil=>intro v h; rw [List.isEmpty_iff.mp h]; trivial
 | cons a as ih=>intro v h; cases v with
  | nil=>exact no h
  | cons v vs=>obtain ⟨h1,h2⟩:=aw h; exact ⟨nP h1,ih h2⟩
theorem g8 {α:Type} {l:List (Nat × α)} {x:Nat} {v:α} (e:lk l x=some v):(x,v)∈l:=by
 induction l with
 | nil=>cases e
 | cons p l ih=>
  obtain ⟨k,w⟩:=p
  rw [bC] at e
  by_cases q:k=x
  ·rw [if_pos q] at e; cases e; subst q; exact .head _
  ·rw [if_neg q] at e; exact .tail _ (ih e)
theorem kM {α:Type} {p:α→Bool} {l:List α} (h:l.all p=true) {x:α} (m:x∈l):p x=true:=List.all_eq_true.mp h x m
noncomputable def qX (K:Frag) (p:Nat × AV):Bool:=match nsIn K mainGlobals (nmS p.1) with
 | some (some val)=>isV p.2 val
 | some none=>(match bootBuiltins (nmS p.1) with
  | some val=>isV p.2 val && !(nmS p.1 == ("__name__" : Str))
  | none=>false)
 | none=>false
theorem rY {K:Frag} {x:Nat} {v:AV} (h:qX K (x,v)=true):∃ val,VR 0 (fun _=>0) v val∧(nsIn K mainGlobals (nmS x)=some (some val)∨(nsIn K mainGlobals (nmS x)=some none∧bootBuiltins (nmS x)=some val∧nmS x≠"__name__")):=by
 unfold qX at h
 cases q:nsIn K mainGlobals (nmS x) with
 | none=>rw [q] at h; exact no h
 | some o=>cases o with
  | some val=>rw [q] at h; exact ⟨val,nP h,.inl rfl⟩
  | none=>
   rw [q] at h
   cases q':bootBuiltins (nmS x) with
   | none=>rw [q'] at h; exact no h
   | some val=>
    rw [q'] at h
    refine zA (aw h) fun h1 h2=>?_
    exact ⟨val,nP h1,.inr ⟨rfl,rfl,fun z=>by have:=fy h2; rw [z] at this; cases this⟩⟩
noncomputable def wC (r:Option (Option Value)) (id:String):Bool:=match r with
 | some (some (.builtin x))=>x == id
 | _=>false
theorem oJ {r:Option (Option Value)} {id:String} (h:wC r id=true):r=some (some (.builtin id)):=by
 cases r with
 | none=>exact no h
 | some r=>cases r with
  | none=>exact no h
  | some v=>cases v <;> first | exact no h | exact congrArg (fun x=>some (some (Value.builtin x))) (eq_of_beq h)
noncomputable def w9 (r:Option (Option Value)):Bool:=match r with
 | some none=>true
 | _=>false
theorem oS {r:Option (Option Value)} (h:w9 r=true):r=some none:=by
 cases r with
 | none=>exact no h
 | some r=>cases r with
  | none=>rfl
  | some v=>exact no h
noncomputable def xN (r:Option (Option Value)) (f:Nat):Bool:=match r with
 | some (some (.ref x))=>Nat.beq x f
 | _=>false
theorem tT {r:Option (Option Value)} {f:Nat} (h:xN r f=true):r=some (some (.ref f)):=by
 cases r with
 | none=>exact no h
 | some r=>cases r with
  | none=>exact no h
  | some v=>cases v <;> first | exact no h | exact congrArg (fun x=>some (some (Value.ref x))) (Nat.eq_of_beq_eq_true h)
noncomputable def vZ (K:Frag) (C:Nat) (flds:List Nat) (p:Nat × Nat):Bool:=xN (findIn K (.ref C) (nmS p.1)) p.2 && ((typeIn K (.ref p.2) == some (.type "function")) && (keepIn K (.ref p.2) && !flds.contains p.1))
noncomputable def yz (o:Option ClassData):Bool:=match o with
 | some cd=>cd.hasDict
 | none=>false
noncomputable def qM (K:Frag) (C:Nat) (ci:CI):Bool:=
 wC (findIn K (.ref C) "__getattribute__") "object.__getattribute__" && (w9 (findIn K (.ref C) "__getattr__") && (wC (findIn K (.ref C) "__setattr__") "object.__setattr__" && (plainOver K C && (makesIn K C && (keepIn K (.ref C) &&
  (yz (clsIn K C) && (ci.flds.all (fun a=>w9 (findIn K (.ref C) (nmS a))) && ci.meths.all (vZ K C ci.flds))))))))
theorem s3 {K:Frag} {C:Nat} {ci:CI} (h:qM K C ci=true):vC K C ci:=by
 refine gp fun gP gH=>?_
 refine zA (aw h) fun h1 h=>?_
 refine zA (aw h) fun h2 h=>?_
 refine zA (aw h) fun h3 h=>?_
 refine zA (aw h) fun h4 h=>?_
 refine zA (aw h) fun h5 h=>?_
 refine zA (aw h) fun h6 h=>?_
 refine zA (aw h) fun h7 h=>?_
 refine zA (aw h) fun h8 h9=>?_
 apply gH;clear gH
 refine ⟨oJ h1,oS h2,oJ h3,h4,h5,h6,?_,fun a ha=>oS (kM h8 (List.contains_iff_mem.mp ha)),fun m f hm=>?_⟩
 ·cases q:clsIn K C with
  | none=>rw [q] at h7; exact no h7
  | some cd=>rw [q] at h7; exact ⟨cd,rfl,h7⟩
 ·obtain ⟨g1,g⟩:=aw (kM h9 (g8 hm))
  refine zA (aw g) fun g2 g=>?_
  refine zA (aw g) fun g3 g4=>?_
  exact ⟨tT g1,eq_of_beq g2,g3,fy g4⟩
noncomputable def sE (K:Frag) (v:Value):Option (List Value):=match v with
 | .none=>some []
 | .ref t=>(match K.lookup t with
  | some ⟨_,_,.seq xs _,_⟩=>some xs.toList
  | _=>none)
 | _=>none
theorem rW {K:Frag} {v:Value} {dv:List Value} (h:sE K v=some dv) (S:Setting):∃ o,peek K S (seqItems? v)=some o∧(o.getD #[]).toList=dv:=by
 cases v with
 | none=>cases h; exact ⟨none,rfl,rfl⟩
 | ref t=>
  have h:(match K.lookup t with | some ⟨_,_,.seq xs _,_⟩=>some xs.toList | _=>none)=some dv:=h
  cases q:K.lookup t with
  | none=>rw [q] at h; cases h
  | some o=>
   rw [q] at h
   refine gp fun gP gH=>?_
   obtain ⟨c,d,data,sl⟩:=o
   apply gH;clear gH
   cases data <;> first | cases h; done | skip
   rename_i xs k
   cases h
   refine ⟨some xs,?_,rfl⟩
   refine (jI (m:=load t) (a:=⟨c,d,.seq xs k,sl⟩) ?_).trans rfl
   unfold load
   rw [peek,q]
   rfl
 | _=>cases h
noncomputable def nT:List Nat→Bool
 | []=>true
 | x :: l=>!l.contains x && nT l
theorem jS {l:List Nat} (h:nT l=true):l.Nodup:=by
 induction l with
 | nil=>exact .nil
 | cons x l ih=>
  refine zA (aw h) fun h1 h2=>?_
  exact List.nodup_cons.mpr ⟨fun z=>(by rw [List.contains_iff_mem.mpr z] at h1; cases h1),ih h2⟩
theorem tD {k:Option NameKind} (h:eH? k=true):k=some .local∨k=some .cell:=by
 cases k with
 | none=>exact no h
 | some k=>cases k <;> first | exact no h | exact .inl rfl | exact .inr rfl
noncomputable def wS (K:Frag) (fi:FI) (fd:FuncData):Bool:=match fd.body with
 | .stmts body=>(match sE K fd.defaults with
  | some dv=>fd.closure.isEmpty && (codeIn K fd.code fd.qualname && (decide (fd.scope.kind=.function) && (!fd.scope.isCoroutine && (!fd.scope.isGenerator && (Nat.beq fd.globals mainGlobals && (Nat.beq fd.builtins builtinsNs &&
   (gm fi.body (fun x=>fd.scope.names.lookup x) body && (sP fi.dfl dv && (nT fi.params && (fi.params.all (fun x=>eH? (fd.scope.names.lookup (nmS x))) &&
    (Nat.ble fi.dfl.length fi.params.length && (fd.params.posonlyargs.isEmpty && (fd.params.vararg.isNone && (fd.params.kwonlyargs.isEmpty && (fd.params.kwarg.isNone && iy fi.params (fd.params.args.map (·.arg)))))))))))))))))
  | none=>false)
 | _=>false
noncomputable def uY (K:Frag) (a:Nat) (fi:FI):Bool:=match K.lookup a with
 | some ⟨_,_,.func fd,_⟩=>keepIn K (.ref a) && wS K fi fd
 | _=>false
theorem uB {K:Frag} {fi:FI} {fd:FuncData} {a:Nat} {o:Obj} (q:K.lookup a=some o) (qd:o.data=.func fd) (h:wS K fi fd=true):vT K a fi:=by
 unfold wS at h
 cases e1:fd.body <;> first | (rw [e1] at h; exact no h) | skip
 rename_i body
 rw [e1] at h
 cases e3:sE K fd.defaults with
 | none=>rw [e3] at h; exact no h
 | some dv=>
  rw [e3] at h
  refine gp fun gP gH=>?_
  refine zA (aw h) fun e2 h=>?_
  refine zA (aw h) fun h1 h=>?_
  refine zA (aw h) fun h2 h=>?_
  refine zA (aw h) fun h3 h=>?_
  refine zA (aw h) fun h4 h=>?_
  refine zA (aw h) fun h5 h=>?_
  refine zA (aw h) fun h6 h=>?_
  refine zA (aw h) fun h7 h=>?_
  refine zA (aw h) fun h8 h=>?_
  refine zA (aw h) fun h9 h=>?_
  refine zA (aw h) fun h10 h=>?_
  refine zA (aw h) fun h12 h=>?_
  refine zA (aw h) fun p1 h=>?_
  refine zA (aw h) fun p2 h=>?_
  refine zA (aw h) fun p3 h=>?_
  refine zA (aw h) fun p4 p5=>?_
  apply gH;clear gH
  have lv:=(kQ h8).len
  refine ⟨_,fd,body,dv,q,qd,e1,h1,List.isEmpty_iff.mp e2,of_decide_eq_true h2,fy h3,fy h4,Nat.eq_of_beq_eq_true h5,Nat.eq_of_beq_eq_true h6,cM _ h7,kQ h8,jS h9,fun x hx=>tD (kM h10 hx),fun vals b hb S=>?_⟩
  rw [lv] at hb
  exact uX ⟨List.isEmpty_iff.mp p1,iV p5,Option.isNone_iff_eq_none.mp p2,List.isEmpty_iff.mp p3,Option.isNone_iff_eq_none.mp p4⟩ (jS h9) (by rw [← lv]; exact Nat.le_of_ble_eq_true h12) (fun S=>rW e3 S) hb S
theorem py {K:Frag} {a:Nat} {fi:FI} (h:uY K a fi=true):vT K a fi∧keepIn K (.ref a)=true:=by
 unfold uY at h
 cases q:K.lookup a with
 | none=>rw [q] at h; exact no h
 | some o=>
  rw [q] at h
  refine gp fun gP gH=>?_
  obtain ⟨c,d,data,sl⟩:=o
  apply gH;clear gH
  cases data <;> first | exact no h | skip
  refine zA (aw h) fun h1 h2=>?_
  exact ⟨uB q rfl h2,h1⟩
noncomputable def oR (K:Frag) (a:Nat) (xs:List AV):Bool:=match K.lookup a with
 | some o=>(o.cls == .type "tuple") && (o.dict.isNone && (o.slots.isEmpty && (match o.data with | .seq vs _=>sP xs vs.toList | _=>false)))
 | none=>false
theorem qS {K:Frag} {a:Nat} {xs:List AV} (h:oR K a xs=true):∃ vs k,K.lookup a=some { cls:=.type "tuple",data:=.seq vs.toArray k }∧VRs 0 (fun _=>0) xs vs:=by
 unfold oR at h
 cases q:K.lookup a with
 | none=>rw [q] at h; exact no h
 | some o=>
  rw [q] at h
  refine gp fun gP gH=>?_
  obtain ⟨c,d,data,sl⟩:=o
  refine zA (aw h) fun h1 h2=>?_
  refine zA (aw h2) fun h2 h3=>?_
  refine zA (aw h3) fun h3 h4=>?_
  apply gH;clear gH
  have key:∃ vs k,data=.seq vs k∧sP xs vs.toList=true:=by
   cases data <;> first | exact no h4 | exact ⟨_,_,rfl,h4⟩
  refine zEEA key fun vs k gR0 h5=>?_
  subst gR0
  refine ⟨vs.toList,k,?_,kQ h5⟩
  rw [show c=.type "tuple" from eq_of_beq h1,show d=none from Option.isNone_iff_eq_none.mp h2,show sl=#[] by simpa using h3]
structure vH (K:Frag) (G:Tab):Prop where
 glb:G.glb.all (qX K)=true
 cls:∀ p∈G.cls,qM K p.1 p.2=true
 fns:∀ p∈G.fns,uY K p.1 p.2=true
 top:∀ p∈G.top,oR K p.1 p.2=true
theorem Ok.of {c:Cx} {mg mb:Str→Option Value} (X:c.K.In c.hb) (nl:c.hb.NoLimit) (hg:c.hb.Ns mainGlobals mg) (hb:c.hb.Ns builtinsNs mb) (hbb:∀ x:Str,x≠"__name__" → mb x=bootBuiltins x) (sys:bl c.hb sysModules) (t:vH c.K c.G):Ok c where
 k:=X
 nolim:=nl
 cls:=fun C ci e=>s3 (t.cls _ (g8 e))
 fns:=fun a fi e=>(py (t.fns _ (g8 e))).1
 keepF:=fun a fi e=>(py (t.fns _ (g8 e))).2
 nss:=⟨mg,mb,hg,hb,hbb⟩
 glb:=fun x v e=>rY (kM t.glb (g8 e))
 top:=fun a xs e=>by
  refine zEEA (qS (t.top _ (g8 e))) fun vs k h2 h3=>?_
  exact ⟨vs,k,X _ _ h2,h3⟩
 sysm:=sys
theorem pU {P:Params} {h:Heap} {ns:List Int}:∀ {vs:List Value},WellAll P h vs (ofPys (ns.map PyData.int))→VRs 0 (fun _=>0) (ns.map .int) vs:=by
 induction ns with
 | nil=>intro vs w; cases w; trivial
 | cons n ns ih=>
  intro vs w
  cases w with
  | cons w1 w2=>
   cases w1
   exact ⟨⟨_,rfl⟩,ih w2⟩
noncomputable def gN (ns:List Int):Hp:=⟨fun _=>some (.list (ns.map .int)),1⟩
theorem s4 (ns:List Int):(gN ns).get 0=some (.list (ns.map .int)):=rfl
theorem xg {c:Cx} {P:Params} {ns:List Int} {L:Addr} (w:Well P c.hb (.ref L) (ofPy (PyData.list (ns.map PyData.int)))):HR c (fun _=>L) (fun _=>L) (gN ns) (gN ns).n c.hb:=by
 cases w with
 | list h1 h2=>
  refine ⟨fun b o e=>e,fun i o e=>?_,fun i h1 h2=>absurd h1 (Nat.not_le.mpr h2),fun i j h1 h2 ne=>absurd ((Nat.lt_one_iff.mp h1).trans (Nat.lt_one_iff.mp h2).symm) ne,fun i hi=>⟨⟨_,h1⟩,⟨_,h1⟩⟩,Nat.le_refl _,fun i hi=>⟨⟨_,h1⟩,⟨_,h1⟩⟩⟩
  have lt:=aP e
  have:i=0:=Nat.lt_one_iff.mp lt
  subst this
  cases e
  exact ⟨lt,_,0,h1,(pU h2).up (Nat.zero_le _) fun i q=>absurd q (Nat.not_lt_zero i)⟩
theorem rD {c:Cx} {d a:Nat} {A:Around} {s:Shared} {P:Params} {ns:List Int} {L:Addr} {T':Hp} {Q E:Value→Shared→Prop} (hs:s.heap=c.hb) (w:Well P c.hb (.ref L) (ofPy (PyData.list (ns.map PyData.int))))
  (he:Ca c a [.ref 0] d (gN ns) (.bool true) T') (ro:fY d A) (hf:A.frames=some [])
  (hq:∀ h' t',(∀ b ob,c.hb.get? b=some ob→h'.get? b=some ob)→Q (.bool true) (Sh s h' t')):wpAny (model c.prog c.w) A (call (.ref a) [.ref L]) Q E s:=by
 refine wpAny_call (he A s (fun _=>L) (fun _=>L) _ [.ref L] ⟨⟨Nat.one_pos,rfl⟩,trivial⟩ (by rw [hs]; exact xg w) ro ⟨[],hf,fun e he=>nomatch he⟩ ?_)
 intro ρ' δ' h' t' val g r vr
 cases vr
 exact hq h' t' r.base
noncomputable def Upd (n:Nat) (P:Nat→AO→Prop) (T T':Hp):Prop:=T.n≤T'.n∧∀ r a,r<n→P r a→T.get r=some a→T'.get r=some a
theorem gu (T:Hp) {o:AO} {r x:Nat} (ne:x≠r):(aI T r o).get x=T.get x:=by
 show (if x<T.n then (if x=r then some o else T.m x) else none)=if x<T.n then T.m x else none
 rw [if_neg ne]
section
variable {n m:Nat} {P Q:Nat→AO→Prop} {T T1 T2:Hp} {o a:AO} {r x:Nat}
theorem Upd.refl:Upd n P T T:=⟨Nat.le_refl _,fun _ _ _ _ h=>h⟩
theorem Upd.trans (u:Upd n P T T1) (v:Upd n P T1 T2):Upd n P T T2:=⟨Nat.le_trans u.1 v.1,fun r a q p h=>v.2 r a q p (u.2 r a q p h)⟩
theorem Upd.new (u:Upd n P T T1):Upd n P T (aq T1 o):=⟨Nat.le_succ_of_le u.1,fun r a q p h=>af (u.2 r a q p h)⟩
theorem Upd.put (u:Upd n P T T1) (h:n≤r):Upd n P T (aI T1 r o):=⟨u.1,fun x a q p g=>(gu T1 (Nat.ne_of_lt (Nat.lt_of_lt_of_le q h))).trans (u.2 x a q p g)⟩
theorem Upd.set (u:Upd n P T T1) (h:T.get r=some o→¬ P r o) (g:T.get r=some o):Upd n P T (aI T1 r a):=⟨u.1,fun x b q p k=>by
 by_cases e:x=r
 ·subst e; rw [g] at k; cases k; exact absurd p (h g)
 ·exact (gu T1 e).trans (u.2 x b q p k)⟩
theorem Upd.weak (u:Upd n P T T1) (le:m≤n) (h:∀ r a,Q r a→P r a):Upd m Q T T1:=⟨u.1,fun r a q p g=>u.2 r a (Nat.lt_of_lt_of_le q le) (h r a p) g⟩
theorem Upd.get (u:Upd T.n P T T1) (p:P r a) (g:T.get r=some a):T1.get r=some a:=u.2 r a (aP g) p g
end
noncomputable def All:Nat→AO→Prop:=fun _ _=>True
section
variable (c:Cx) (d:Nat) (loc:Loc) (T:Hp)
noncomputable def EvP (e:PE) (Q:AV→Hp→Prop):Prop:=∃ v T',Ev c e d loc T v T'∧Q v T'
noncomputable def EsP (l:PEs) (Q:List AV→Hp→Prop):Prop:=∃ v T',Evs c l d loc T v T'∧Q v T'
noncomputable def TrP (e:PE) (Q:Bool→Hp→Prop):Prop:=∃ t T',Tr c e d loc T t T'∧Q t T'
noncomputable def TsP (w:Bool) (l:PEs) (Q:Bool→Hp→Prop):Prop:=∃ t T',Ts c w l d loc T t T'∧Q t T'
noncomputable def BoP (w:Bool) (l:PEs) (Q:AV→Hp→Prop):Prop:=∃ t T',Bo c w l d loc T t T'∧Q t T'
noncomputable def TeP (l:PEs) (Q:Bool→Hp→Prop):Prop:=∃ t T',Te c l d loc T t T'∧Q t T'
noncomputable def PvP (l:PEs) (Q:List (AV × AV)→Hp→Prop):Prop:=∃ t T',Pv c l d loc T t T'∧Q t T'
noncomputable def StP (s:PS) (N:Loc→Hp→Prop) (R:AV→Hp→Prop):Prop:=(∃ l T',St c s d loc T (.nxt l) T'∧N l T')∨(∃ v T',St c s d loc T (.ret v) T'∧R v T')
noncomputable def ExP (b:PSs) (N:Loc→Hp→Prop) (R:AV→Hp→Prop):Prop:=(∃ l T',Ex c b d loc T (.nxt l) T'∧N l T')∨(∃ v T',Ex c b d loc T (.ret v) T'∧R v T')
noncomputable def LoP (xs:List Nat) (src:Nat) (ik:IK) (i:Nat) (b:PSs) (N:Loc→Hp→Prop) (R:AV→Hp→Prop):Prop:=(∃ l T',Lo c xs src ik i b d loc T (.nxt l) T'∧N l T')∨(∃ v T',Lo c xs src ik i b d loc T (.ret v) T'∧R v T')
noncomputable def WlP (t:PE) (b:PSs) (N:Loc→Hp→Prop) (R:AV→Hp→Prop):Prop:=(∃ l T',Wl c t b d loc T (.nxt l) T'∧N l T')∨(∃ v T',Wl c t b d loc T (.ret v) T'∧R v T')
noncomputable def CoP (ck:CK) (acc:Nat) (xs:List Nat) (src:Nat) (ik:IK) (i:Nat) (ifs:PEs) (Q:Hp→Prop):Prop:=∃ T',Co c ck acc xs src ik i ifs d loc T T'∧Q T'
end
section
variable (c:Cx) (T:Hp)
noncomputable def CaP (a:Nat) (args:List AV) (d:Nat) (Q:AV→Hp→Prop):Prop:=∃ v T',Ca c a args d T v T'∧Q v T'
noncomputable def BcP (f:AV) (args:List AV) (d:Nat) (Q:AV→Hp→Prop):Prop:=∃ v T',Bc c f args d T v T'∧Q v T'
noncomputable def BmP (id:String) (o:AV) (args:List AV) (d:Nat) (Q:AV→Hp→Prop):Prop:=∃ v T',Bm c id o args d T v T'∧Q v T'
noncomputable def BgP (o:AV) (m:Nat) (K:String→Prop):Prop:=∃ id,Bg c o m id T∧K id
noncomputable def BiP (op:Bop) (a b:AV) (Q:AV→Hp→Prop):Prop:=∃ v T',Bi c op a b T v T'∧Q v T'
noncomputable def CmP (op:Cop) (a b:AV) (Q:Bool→Prop):Prop:=∃ t,Cm c op a b T t∧Q t
noncomputable def ItP (a b:AV) (Q:AV→Prop):Prop:=∃ v,It c a b T v∧Q v
noncomputable def SlP (up:Bool) (a b:AV) (Q:AV→Hp→Prop):Prop:=∃ v T',Sl c up a b T v T'∧Q v T'
noncomputable def AtP (v:AV) (a:Nat) (Q:AV→Prop):Prop:=∃ r C fs ci w,v=.ref r∧T.get r=some (.inst C fs)∧lk c.G.cls C=some ci∧ci.flds.contains a=true∧lk fs a=some w∧Q w
noncomputable def MtP (v:AV) (m:Nat) (K:Nat→Nat→Prop):Prop:=∃ r C fs ci f,v=.ref r∧T.get r=some (.inst C fs)∧lk c.G.cls C=some ci∧lk ci.meths m=some f∧lk fs m=none∧K r f
noncomputable def AsP (u:AV) (a:Nat) (v:AV) (K:Hp→Prop):Prop:=∃ r C fs ci,u=.ref r∧T.get r=some (.inst C fs)∧lk c.G.cls C=some ci∧ci.flds.contains a=true∧fs.length<500∧1≤r∧K (aI T r (.inst C (pt fs a v)))
noncomputable def DpP (u k v:AV) (K:Hp→Prop):Prop:=∃ r es ep,u=.ref r∧T.get r=some (.dict es ep)∧kOk k es=true∧es.length<4000∧1≤r∧K (aI T r (.dict (dpt k v es) (epS k es ep)))
noncomputable def DdP (u k:AV) (K:Hp→Prop):Prop:=∃ r es ep v,u=.ref r∧T.get r=some (.dict es ep)∧kOk k es=true∧es.length<4000∧dlk k es=some v∧1≤r∧K (aI T r (.dict (ddl k es) (ep+1)))
noncomputable def TuP (u:AV) (xs:List Nat) (loc:Loc) (K:Loc→Prop):Prop:=∃ r vs loc',u=.ref r∧(T.get r=some (.tuple vs)∨T.get r=some (.list vs))∧dp xs vs loc=some loc'∧K loc'
noncomputable def TwP (u:AV) (xs:List Nat) (loc:Loc) (K:Loc→Prop):Prop:=∃ r vs loc',u=.ref r∧T.get r=some (.tuple vs)∧dp xs.reverse vs.reverse loc=some loc'∧K loc'
noncomputable def IkP (u:AV) (K:Nat→IK→Prop):Prop:=∃ r ik,u=.ref r∧ed T r ik∧K r ik
noncomputable def DiP (l:PEs) (n:Nat) (ps:List (AV × AV)) (K:Hp→Prop):Prop:=T.get n=some (.dict [] 0)∧Nat.ble 1 n=true∧eJ l=2 * ps.length∧ps≠[]∧kf ps []=true∧K (aI T n (fil ps [] 0))
noncomputable def ShP {α:Type} (vs:List α) (K:Prop):Prop:=vs.length<1000∧K
noncomputable def BlP (v:AV) (K:Bool→Prop):Prop:=∃ t,v=.bool t∧K t
noncomputable def YeP (t w:Bool) (K:Prop):Prop:=t=w∧K
noncomputable def NoP (v:AV) (K:Prop):Prop:=v=.none∧K
end
section
variable {c:Cx} {d:Nat} {loc loc':Loc} {T T':Hp} {Q:AV→Hp→Prop} {QB:Bool→Hp→Prop} {v a b:AV} {t w:Bool} {K:Prop} {KV:AV→Prop} {KB:Bool→Prop} {KH:Hp→Prop}
theorem bK {f:Nat} {args:List AV} (h:Ca c f args d T v T') (q:Q v T'):CaP c T f args d Q:=⟨_,_,h,q⟩
theorem eF {f:AV} {args:List AV} (h:Bc c f args d T v T') (q:Q v T'):BcP c T f args d Q:=⟨_,_,h,q⟩
theorem t0 {id:String} {o:AV} {args:List AV} (h:Bm c id o args d T v T') (q:Q v T'):BmP c T id o args d Q:=⟨_,_,h,q⟩
theorem tP {id:String} {o:AV} {m:Nat} {KS:String→Prop} (h:Bg c o m id T) (q:KS id):BgP c T o m KS:=⟨_,h,q⟩
theorem n9 {op:Bop} (h:Bi c op a b T v T') (q:Q v T'):BiP c T op a b Q:=⟨_,_,h,q⟩
theorem bE {op:Cop} (t:Bool) (h:Cm c op a b T t) (q:KB t):CmP c T op a b KB:=⟨_,h,q⟩
theorem ej (h:It c a b T v) (q:KV v):ItP c T a b KV:=⟨_,h,q⟩
theorem yw {up:Bool} (h:Sl c up a b T v T') (q:Q v T'):SlP c T up a b Q:=⟨_,_,h,q⟩
theorem wg {r ep:Nat} {k:AV} {es:List (AV × AV)} (h:T.get r=some (.dict es ep)) (h2:kOk k es=true) (h3:es.length<4000) (h4:1≤r) (q:KH (aI T r (.dict (dpt k v es) (epS k es ep)))):DpP T (.ref r) k v KH:=⟨_,_,_,rfl,h,h2,h3,h4,q⟩
theorem wp {r ep:Nat} {k:AV} {es:List (AV × AV)} (h:T.get r=some (.dict es ep)) (h2:kOk k es=true) (h3:es.length<4000) (h4:dlk k es=some v) (h5:1≤r) (q:KH (aI T r (.dict (ddl k es) (ep+1)))):DdP T (.ref r) k KH:=⟨_,_,_,_,rfl,h,h2,h3,h4,h5,q⟩
theorem sZ {r:Nat} {vs:List AV} {xs:List Nat} {KL:Loc→Prop} (h:T.get r=some (.tuple vs)∨T.get r=some (.list vs)) (h2:dp xs vs loc=some loc') (q:KL loc'):TuP T (.ref r) xs loc KL:=⟨_,_,_,rfl,h,h2,q⟩
theorem uT {r:Nat} {vs:List AV} {xs:List Nat} {KL:Loc→Prop} (h:T.get r=some (.tuple vs)) (h2:dp xs.reverse vs.reverse loc=some loc') (q:KL loc'):TwP T (.ref r) xs loc KL:=⟨_,_,_,rfl,h,h2,q⟩
theorem jx {r:Nat} {ik:IK} {KI:Nat→IK→Prop} (h:ed T r ik) (q:KI r ik):IkP T (.ref r) KI:=⟨_,_,rfl,h,q⟩
theorem tZ {l:PEs} {n:Nat} {ps:List (AV × AV)} (h1:T.get n=some (.dict [] 0)) (h2:Nat.ble 1 n=true) (h3:eJ l=2 * ps.length) (h4:ps≠[]) (h5:kf ps []=true) (q:KH (aI T n (fil ps [] 0))):DiP T l n ps KH:=⟨h1,h2,h3,h4,h5,q⟩
theorem d0 {α:Type} {vs:List α} (h:vs.length<1000) (q:K):ShP vs K:=⟨h,q⟩
theorem eG (q:KB t):BlP (.bool t) KB:=⟨_,rfl,q⟩
theorem bd (q:K):YeP t t K:=⟨rfl,q⟩
theorem pM (q:K):NoP .none K:=⟨rfl,q⟩
end
section
variable {c:Cx} {d:Nat} {loc loc':Loc} {T T':Hp} {Q:AV→Hp→Prop} {QB:Bool→Hp→Prop} {QL:List AV→Hp→Prop} {N:Loc→Hp→Prop} {R:AV→Hp→Prop} {e e2 o i k v it tst:PE} {l ifs:PEs} {b b2 hb:PSs} {s:PS} {x m cl nm:Nat} {xs:List Nat} {w up:Bool} {u:AV}
theorem gG (q:Q .none T):EvP c d loc T .none Q:=⟨_,_,bG,q⟩
theorem oh {z:Bool} (q:Q (.bool z) T):EvP c d loc T (.bool z) Q:=⟨_,_,iU,q⟩
theorem bw {z:Int} (q:Q (.int z) T):EvP c d loc T (.int z) Q:=⟨_,_,aD,q⟩
theorem aY {z:List Nat} (q:Q (.str z) T):EvP c d loc T (.str z) Q:=⟨_,_,aQ,q⟩
theorem aE (h:lk loc x=some u) (q:Q u T):EvP c d loc T (.loc x) Q:=⟨_,_,aj h,q⟩
theorem rI (ok:Ok c) (h:lk c.G.glb x=some u) (q:Q u T):EvP c d loc T (.glb x) Q:=⟨_,_,dk ok h,q⟩
theorem dJ (ok:Ok c) (h:EvP c d loc T e fun v T1=>AtP c T1 v x fun w=>Q w T1):EvP c d loc T (.attr e x) Q:=by
 refine gp fun gP gH=>?_
 obtain ⟨_,_,h1,r,C,fs,ci,w,rfl,h2,h3,h4,h5,q⟩:=h
 apply gH;clear gH
 exact ⟨_,_,kS ok h1 h2 h3 h4 h5,q⟩
theorem au (q:QL [] T):EsP c d loc T .nil QL:=⟨_,_,ae,q⟩
theorem aA (h:EvP c d loc T e fun v T1=>EsP c d loc T1 l fun vs T2=>QL (v :: vs) T2):EsP c d loc T (.cons e l) QL:=by
 refine zEEAEEA h fun _ _ h1 _ _ h2 q=>?_
 exact ⟨_,_,ai h1 h2,q⟩
theorem d5 (h:EsP c d loc T l fun vs T1=>ShP vs (Q (.ref T1.n) (aq T1 (.list vs)))):EvP c d loc T (.list l) Q:=by
 refine zEEAA h fun _ _ h1 h2 q=>?_
 exact ⟨_,_,cT h1 h2,q⟩
theorem cJ (h:EsP c d loc T l fun vs T1=>ShP vs (Q (.ref T1.n) (aq T1 (.tuple vs)))):EvP c d loc T (.tuple l) Q:=by
 refine zEEAA h fun _ _ h1 h2 q=>?_
 exact ⟨_,_,bW h1 h2,q⟩
theorem cX (ok:Ok c) {f:Nat} {fi:FI} (hx:lk c.G.glb x=some (.obj f)) (hf:lk c.G.fns f=some fi) (h:EsP c d loc T l fun vs T1=>CaP c T1 f vs d Q):EvP c d loc T (.call (.glb x) l) Q:=by
 refine zEEAEEA h fun _ _ h1 _ _ h2 q=>?_
 exact ⟨_,_,aS ok hx hf h1 h2,q⟩
theorem bA (ok:Ok c) {f:AV} (hx:lk c.G.glb x=some f) (hf:(∃ b,f=.bi b)∨∃ t,f=.typ t) (h:EsP c d loc T l fun vs T1=>BcP c T1 f vs d Q):EvP c d loc T (.call (.glb x) l) Q:=by
 refine zEEAEEA h fun _ _ h1 _ _ h2 q=>?_
 exact ⟨_,_,aN ok hx hf h1 h2,q⟩
theorem ke (ok:Ok c) {a fi:Nat} {ci:CI} (hx:lk c.G.glb x=some (.obj a)) (hc:lk c.G.cls a=some ci) (hi:lk ci.meths 6944679725401530464=some fi) (h:EsP c (d+1) loc T l fun vs T1=>CaP c (aq T1 (.inst a [])) fi (.ref T1.n :: vs) d fun v T2=>NoP v (Q (.ref T1.n) T2)):EvP c (d+1) loc T (.call (.glb x) l) Q:=by
 refine zEEAEEA h fun _ _ h1 _ _ h2 gC0=>?_
 refine zA gC0 fun gR0 q=>?_
 subst gR0
 exact ⟨_,_,kj ok hx hc hi h1 h2,q⟩
theorem gY (ok:Ok c) (h:EvP c d loc T o fun v T1=>MtP c T1 v m fun r f=>EsP c d loc T1 l fun vs T2=>CaP c T2 f (.ref r :: vs) d Q):EvP c d loc T (.meth o m l) Q:=by
 refine gp fun gP gH=>?_
 obtain ⟨_,_,h1,r,C,fs,ci,f,rfl,h2,h3,h4,h5,_,_,h6,_,_,h7,q⟩:=h
 apply gH;clear gH
 exact ⟨_,_,rK ok h1 h2 h3 h4 h5 h6 h7,q⟩
theorem iG (h:EvP c d loc T o fun v T1=>BgP c T1 v m fun id=>EsP c d loc T1 l fun vs T2=>BmP c T2 id v vs d Q):EvP c d loc T (.meth o m l) Q:=by
 refine zEEAEAE h fun _ _ h1 id h2 _ gC0=>?_
 refine zEAEEA gC0 fun _ h6 _ _ h7 q=>?_
 exact ⟨_,_,bH h1 h2 h6 h7,q⟩
theorem i8 {op:Bop} (h:EvP c d loc T e fun a T1=>EvP c d loc T1 e2 fun b T2=>BiP c T2 op a b Q):EvP c d loc T (.bin op e e2) Q:=by
 refine zEEAEEA h fun _ _ h1 _ _ h2 gC0=>?_
 refine zEEA gC0 fun _ _ h3 q=>?_
 exact ⟨_,_,bB h1 h2 h3,q⟩
theorem oO {op:Cop} (h:EvP c d loc T e fun a T1=>EvP c d loc T1 e2 fun b T2=>CmP c T2 op a b fun t=>Q (.bool t) T2):EvP c d loc T (.cmp op e e2) Q:=by
 refine zEEAEEA h fun _ _ h1 _ _ h2 gC0=>?_
 refine zEA gC0 fun _ h3 q=>?_
 exact ⟨_,_,fB h1 h2 h3,q⟩
theorem aT {op:Cop} (h:EvP c d loc T e fun a T1=>EvP c d loc T1 e2 fun b T2=>CmP c T2 op a b fun t=>QB t T2):TrP c d loc T (.cmp op e e2) QB:=by
 refine zEEAEEA h fun _ _ h1 _ _ h2 gC0=>?_
 refine zEA gC0 fun _ h3 q=>?_
 exact ⟨_,_,az h1 h2 h3,q⟩
theorem fJ (h:TrP c d loc T e fun t T1=>QB (!t) T1):TrP c d loc T (.not e) QB:=by
 refine zEEA h fun _ _ h1 q=>?_
 exact ⟨_,_,fU h1,q⟩
theorem bS (hp:nQ e=true) (h:EvP c d loc T e fun v T1=>BlP v fun t=>QB t T1):TrP c d loc T e QB:=by
 refine zEEAEL h fun _ _ h1 q=>?_
 exact ⟨_,_,bj hp h1,q⟩
theorem fR (h:TsP c d loc T true l QB):TrP c d loc T (.and l) QB:=by
 refine zEEA h fun _ _ h1 q=>?_
 exact ⟨_,_,bQ h1,q⟩
theorem oP (h:TsP c d loc T false l QB):TrP c d loc T (.or l) QB:=by
 refine zEEA h fun _ _ h1 q=>?_
 exact ⟨_,_,gz h1,q⟩
theorem gq (q:QB w T):TsP c d loc T w .nil QB:=⟨_,_,cB,q⟩
theorem cu (h:TrP c d loc T e fun t T1=>YeP t w (TsP c d loc T1 w l QB)):TsP c d loc T w (.cons e l) QB:=by
 refine zEEALEEA h fun _ _ _ h1 h2 q=>?_
 exact ⟨_,_,bn h1 h2,q⟩
theorem dO (h:TrP c d loc T e fun t T1=>YeP t (!w) (QB (!w) T1)):TsP c d loc T w (.cons e l) QB:=by
 refine zEEAL h fun _ h1 q=>?_
 exact ⟨_,_,aZ h1,q⟩
theorem o3 (h:BoP c d loc T true l Q):EvP c d loc T (.and l) Q:=by
 refine zEEA h fun _ _ h1 q=>?_
 exact ⟨_,_,xy h1,q⟩
theorem xZ (h:BoP c d loc T false l Q):EvP c d loc T (.or l) Q:=by
 refine zEEA h fun _ _ h1 q=>?_
 exact ⟨_,_,yu h1,q⟩
theorem iT (h:EvP c d loc T e Q):BoP c d loc T w (.cons e .nil) Q:=by
 refine zEEA h fun _ _ h1 q=>?_
 exact ⟨_,_,uk h1,q⟩
theorem nX (h:EvP c d loc T e fun v T1=>BlP v fun t=>YeP t w (BoP c d loc T1 w (.cons e2 l) Q)):BoP c d loc T w (.cons e (.cons e2 l)) Q:=by
 refine zEEAELAE h fun _ _ _ h1 gR0 gC0=>?_
 refine zEA gC0 fun _ h2 q=>?_
 subst gR0
 exact ⟨_,_,xU h1 h2,q⟩
theorem jw (h:EvP c d loc T e fun v T1=>BlP v fun t=>YeP t (!w) (Q (.bool (!w)) T1)):BoP c d loc T w (.cons e (.cons e2 l)) Q:=by
 refine zEEAELA h fun _ _ h1 gR0 q=>?_
 subst gR0
 exact ⟨_,_,tu h1,q⟩
theorem cL (h:EvP c d loc T o fun a T1=>EvP c d loc T1 i fun b T2=>ItP c T2 a b fun v=>Q v T2):EvP c d loc T (.sub o i) Q:=by
 refine zEEAEEA h fun _ _ h1 _ _ h2 gC0=>?_
 refine zEA gC0 fun _ h3 q=>?_
 exact ⟨_,_,di h1 h2 h3,q⟩
theorem uR (h:EvP c d loc T o fun a T1=>EvP c d loc T1 i fun b T2=>SlP c T2 up a b Q):EvP c d loc T (.slice o up i) Q:=by
 refine zEEAEEA h fun _ _ h1 _ _ h2 gC0=>?_
 refine zEEA gC0 fun _ _ h3 q=>?_
 exact ⟨_,_,eM h1 h2 h3,q⟩
theorem lB {QP:List (AV × AV)→Hp→Prop} (q:QP [] T):PvP c d loc T .nil QP:=⟨_,_,xx,q⟩
theorem bM {QP:List (AV × AV)→Hp→Prop} (h:EvP c d loc T e fun a T1=>EvP c d loc T1 e2 fun b T2=>PvP c d loc T2 l fun ps T3=>QP ((a,b) :: ps) T3):PvP c d loc T (.cons e (.cons e2 l)) QP:=by
 refine zEEAEEA h fun _ _ h1 _ _ h2 gC0=>?_
 refine zEEA gC0 fun _ _ h3 q=>?_
 exact ⟨_,_,wO h1 h2 h3,q⟩
theorem kD (ok:Ok c) (h:PvP c d loc (aq T (.dict [] 0)) l fun ps T1=>DiP T1 l T.n ps fun T2=>Q (.ref T.n) T2):EvP c d loc T (.dict l) Q:=by
 refine zEEAAAA h fun _ _ h1 h2 h3 h4 gC0=>?_
 refine zAA gC0 fun h5 h6 q=>?_
 exact ⟨_,_,v4 ok h1 h2 h3 h4 h5 h6,q⟩
theorem uq (h:EvP c d loc T it fun u T1=>IkP T1 u fun r ik=>CoP c d (rm (bq :: xs) loc) (aq T1 (.list [])) (.list v) T1.n xs r ik 0 ifs fun T2=>Q (.ref T1.n) T2):EvP c d loc T (.listc v xs it ifs) Q:=by
 refine zEEAEELA h fun _ _ _ h1 h2 gC0=>?_
 refine zEA gC0 fun _ h3 q=>?_
 exact ⟨_,_,dQ h1 h2 h3,q⟩
theorem ax (q:N loc T):ExP c d loc T .nil N R:=.inl ⟨_,_,xO,q⟩
theorem am (h:StP c d loc T s (fun l T1=>ExP c d l T1 b N R) R):ExP c d loc T (.cons s b) N R:=by
 obtain ⟨_,_,h1,⟨_,_,h2,q⟩ | ⟨_,_,h2,q⟩⟩ | ⟨_,_,h1,q⟩:=h
 ·exact .inl ⟨_,_,qO h1 h2,q⟩
 ·exact .inr ⟨_,_,qO h1 h2,q⟩
 ·exact .inr ⟨_,_,xB h1,q⟩
theorem kO (h:EvP c d loc T e fun _ T1=>N loc T1):StP c d loc T (.expr e) N R:=by
 refine zEEA h fun _ _ h1 q=>?_
 exact .inl ⟨_,_,vW h1,q⟩
theorem iW (h:EvP c d loc T e R):StP c d loc T (.ret e) N R:=by
 refine zEEA h fun _ _ h1 q=>?_
 exact .inr ⟨_,_,ya h1,q⟩
theorem fT (h:EvP c d loc T e fun v T1=>N (pt loc x v) T1):StP c d loc T (.asg x e) N R:=by
 refine zEEA h fun _ _ h1 q=>?_
 exact .inl ⟨_,_,xq h1,q⟩
theorem dj (h:TrP c d loc T tst fun w T1=>ExP c d loc T1 (cond w b b2) N R):StP c d loc T (.ite tst b b2) N R:=by
 obtain ⟨_,_,h1,⟨_,_,h2,q⟩ | ⟨_,_,h2,q⟩⟩:=h
 ·exact .inl ⟨_,_,xV _ h1 h2,q⟩
 ·exact .inr ⟨_,_,xV _ h1 h2,q⟩
theorem wk (h:EvP c d loc T it fun u T1=>IkP T1 u fun r ik=>CoP c d (rm (bq :: xs) loc) (aq T1 (.list [])) (.list v) T1.n xs r ik 0 ifs fun T2=>N (pt loc x (.ref T1.n)) T2):StP c d loc T (.asgC x v xs it ifs) N R:=by
 refine zEEAEELA h fun _ _ _ h1 h2 gC0=>?_
 refine zEA gC0 fun _ h3 q=>?_
 exact .inl ⟨_,_,vY h1 h2 h3,q⟩
theorem xd {y:Nat} (h:EvP c d loc T it fun u T1=>IkP T1 u fun r ik=>CoP c d (rm (bq :: [y]) loc) (aq T1 (.set [] none)) (.set v) T1.n [y] r ik 0 ifs fun T2=>N (pt loc x (.ref T1.n)) T2):StP c d loc T (.asgE x v y it ifs) N R:=by
 refine zEEAEELA h fun _ _ _ h1 h2 gC0=>?_
 refine zEA gC0 fun _ h3 q=>?_
 exact .inl ⟨_,_,w4 h1 h2 h3,q⟩
theorem wZ (ok:Ok c) (h:EvP c d loc T e fun v T1=>EvP c d loc T1 o fun u T2=>AsP c T2 u x v fun T3=>N loc T3):StP c d loc T (.asgA o x e) N R:=by
 refine zEEAEEA h fun _ _ h1 _ _ h2 gC0=>?_
 refine zEEEEAA gC0 fun _ _ _ _ gR0 h3 gC1=>?_
 refine zAAAA gC1 fun h4 h5 h6 h7 q=>?_
 subst gR0
 exact .inl ⟨_,_,sU ok h1 h2 h3 h4 h5 h6 h7,q⟩
theorem rX (h:EvP c d loc T e fun v T1=>EvP c d loc T1 o fun u T2=>EvP c d loc T2 i fun k T3=>DpP T3 u k v fun T4=>N loc T4):StP c d loc T (.asgS o i e) N R:=by
 refine zEEAEEA h fun _ _ h1 _ _ h2 gC0=>?_
 refine zEEAEEE gC0 fun _ _ h3 _ _ _ gC1=>?_
 refine zAAAAA gC1 fun gR0 h4 h5 h6 h7 q=>?_
 subst gR0
 exact .inl ⟨_,_,wU h1 h2 h3 h4 h5 h6 h7,q⟩
theorem oa (h:EvP c d loc T o fun u T2=>EvP c d loc T2 i fun k T3=>DdP T3 u k fun T4=>N loc T4):StP c d loc T (.delS o i) N R:=by
 refine gp fun gP gH=>?_
 obtain ⟨_,_,h2,_,_,h3,_,_,_,_,rfl,h4,h5,h6,h7,h8,q⟩:=h
 apply gH;clear gH
 exact .inl ⟨_,_,wX h2 h3 h4 h5 h6 h7 h8,q⟩
theorem jp (h:EvP c d loc T e fun u T1=>TuP T1 u xs loc fun l=>N l T1):StP c d loc T (.asgT xs e) N R:=by
 refine zEEAEEEL h fun _ _ _ _ h1 gC0=>?_
 refine zAA gC0 fun h2 h3 q=>?_
 exact .inl ⟨_,_,wW h1 h2 h3,q⟩
theorem kB (h:EvP c d loc T e fun u T1=>TwP T1 u xs loc fun l=>N l T1):StP c d loc T (.asgW xs e) N R:=by
 refine zEEAEEEL h fun _ _ _ _ h1 gC0=>?_
 refine zAA gC0 fun h2 h3 q=>?_
 exact .inl ⟨_,_,wJ h1 h2 h3,q⟩
theorem hI (h:EvP c d loc T it fun u T1=>IkP T1 u fun r ik=>LoP c d loc T1 xs r ik 0 b N R):StP c d loc T (.for1 xs it b) N R:=by
 obtain ⟨_,_,h1,_,_,rfl,h2,⟨_,_,h3,q⟩ | ⟨_,_,h3,q⟩⟩:=h
 ·exact .inl ⟨_,_,vB h1 h2 h3,q⟩
 ·exact .inr ⟨_,_,vB h1 h2 h3,q⟩
theorem xC (h:WlP c d loc T tst b N R):StP c d loc T (.whl tst b) N R:=by
 obtain ⟨_,_,h3,q⟩ | ⟨_,_,h3,q⟩:=h
 ·exact .inl ⟨_,_,vP h3,q⟩
 ·exact .inr ⟨_,_,vP h3,q⟩
theorem jK (h:ExP c d loc T b N R):StP c d loc T (.try b cl nm hb) N R:=by
 obtain ⟨_,_,h3,q⟩ | ⟨_,_,h3,q⟩:=h
 ·exact .inl ⟨_,_,vn h3,q⟩
 ·exact .inr ⟨_,_,vn h3,q⟩
variable {src j acc:Nat} {ik:IK} {ck:CK} {y:AV} {KH:Hp→Prop}
theorem lC (e:cV T src j none ik) (q:N loc T):LoP c d loc T xs src ik j b N R:=.inl ⟨_,_,mT e,q⟩
theorem kL (e:cV T src j (some y) ik) (eb:bY T xs y loc loc') (h:ExP c d loc' T b (fun l T1=>LoP c d l T1 xs src ik (j+1) b N R) R):LoP c d loc T xs src ik j b N R:=by
 obtain ⟨_,_,h1,⟨_,_,h2,q⟩ | ⟨_,_,h2,q⟩⟩ | ⟨_,_,h1,q⟩:=h
 ·exact .inl ⟨_,_,gJ e eb h1 h2,q⟩
 ·exact .inr ⟨_,_,gJ e eb h1 h2,q⟩
 ·exact .inr ⟨_,_,xA e eb h1,q⟩
theorem w6 (h:TrP c d loc T tst fun t T1=>YeP t false (N loc T1)):WlP c d loc T tst b N R:=by
 refine zEEAL h fun _ h1 q=>?_
 exact .inl ⟨_,_,xD h1,q⟩
theorem uL (h:TrP c d loc T tst fun t T1=>YeP t true (ExP c d loc T1 b (fun l T2=>WlP c d l T2 tst b N R) R)):WlP c d loc T tst b N R:=by
 obtain ⟨_,_,h0,rfl,⟨_,_,h1,⟨_,_,h2,q⟩ | ⟨_,_,h2,q⟩⟩ | ⟨_,_,h1,q⟩⟩:=h
 ·exact .inl ⟨_,_,qz h0 h1 h2,q⟩
 ·exact .inr ⟨_,_,qz h0 h1 h2,q⟩
 ·exact .inr ⟨_,_,xQ h0 h1,q⟩
theorem cH (q:QB true T):TeP c d loc T .nil QB:=⟨_,_,wz,q⟩
theorem je (h:TrP c d loc T e fun t T1=>YeP t true (TeP c d loc T1 l QB)):TeP c d loc T (.cons e l) QB:=by
 refine zEEALEEA h fun _ _ _ h1 h2 q=>?_
 exact ⟨_,_,xE h1 h2,q⟩
theorem eB (h:TrP c d loc T e fun t T1=>YeP t false (QB false T1)):TeP c d loc T (.cons e l) QB:=by
 refine zEEAL h fun _ h1 q=>?_
 exact ⟨_,_,tW h1,q⟩
theorem cI (e:cV T src j none ik) (q:KH T):CoP c d loc T ck acc xs src ik j ifs KH:=⟨_,om e,q⟩
theorem eh (e:cV T src j (some y) ik) (eb:bY T xs y loc loc') (h:TeP c d loc' T ifs fun t T1=>YeP t false (CoP c d loc' T1 ck acc xs src ik (j+1) ifs KH)):CoP c d loc T ck acc xs src ik j ifs KH:=by
 refine zEEALEA h fun _ _ h1 h2 q=>?_
 exact ⟨_,uE e eb h1 h2,q⟩
noncomputable def ApP (T:Hp) (acc:Nat) (y:AV) (K:Hp→Prop):Prop:=∃ ys,T.get acc=some (.list ys)∧ys.length<4000∧1≤acc∧K (aI T acc (.list (ys ++ [y])))
theorem mD {ys:List AV} (h:T.get acc=some (.list ys)) (h2:ys.length<4000) (h3:1≤acc) (q:KH (aI T acc (.list (ys ++ [y])))):ApP T acc y KH:=⟨_,h,h2,h3,q⟩
theorem cN (e:cV T src j (some y) ik) (eb:bY T xs y loc loc') (h:TeP c d loc' T ifs fun t T1=>YeP t true (EvP c d loc' T1 v fun w T2=>ApP T2 acc w fun T3=>CoP c d loc' T3 (.list v) acc xs src ik (j+1) ifs KH)):CoP c d loc T (.list v) acc xs src ik j ifs KH:=by
 refine zEEALEEA h fun _ _ _ h1 h2 gC0=>?_
 refine zEAAAEA gC0 fun _ h3 h4 h5 _ h6 q=>?_
 exact ⟨_,uU e eb h1 h2 h3 h4 h5 h6,q⟩
noncomputable def SaP (T:Hp) (acc:Nat) (y:AV) (K:Hp→Prop):Prop:=∃ (g:List Nat) (j:Nat),y=.int (j:Int)∧T.get acc=some (.set g none)∧okAdd g j=true∧1≤acc∧K (aI T acc (.set (g ++ [j]) none))
theorem yq {g:List Nat} {n:Nat} (h:T.get acc=some (.set g none)) (h2:okAdd g n=true) (h3:1≤acc) (q:KH (aI T acc (.set (g ++ [n]) none))):SaP T acc (.int (n:Int)) KH:=⟨_,_,rfl,h,h2,h3,q⟩
theorem ui (e:cV T src j (some y) ik) (eb:bY T xs y loc loc') (h:TeP c d loc' T ifs fun t T1=>YeP t true (EvP c d loc' T1 v fun w T2=>SaP T2 acc w fun T3=>CoP c d loc' T3 (.set v) acc xs src ik (j+1) ifs KH)):CoP c d loc T (.set v) acc xs src ik j ifs KH:=by
 refine zEEALEEA h fun _ _ _ h1 h2 gC0=>?_
 refine zEEAAAA gC0 fun _ _ gR0 h3 h4 h5 gC1=>?_
 refine zEA gC1 fun _ h6 q=>?_
 subst gR0
 exact ⟨_,wq e eb h1 h2 h3 h4 h5 h6,q⟩
theorem sO (e:cV T src j (some y) ik) (eb:bY T xs y loc loc') (h:TeP c d loc' T ifs fun t T1=>YeP t true (EvP c d loc' T1 k fun kx T2=>EvP c d loc' T2 v fun w T3=>DpP T3 (.ref acc) kx w fun T4=>CoP c d loc' T4 (.dict k v) acc xs src ik (j+1) ifs KH)):CoP c d loc T (.dict k v) acc xs src ik j ifs KH:=by
 refine gp fun gP gH=>?_
 refine zEEALEEA h fun _ _ _ h1 h2 gC0=>?_
 refine zEEAEEE gC0 fun _ _ h3 _ _ _ gC1=>?_
 refine zAAAAAE gC1 fun hr h4 h5 h6 h7 _ gC2=>?_
 refine zA gC2 fun h8 q=>?_
 apply gH;clear gH
 cases hr
 exact ⟨_,uQ e eb h1 h2 h3 h4 h5 h6 h7 h8,q⟩
end
theorem rZ {c:Cx} (ok:Ok c) {d a:Nat} {T:Hp} {args:List AV} {Q:AV→Hp→Prop} {fi:FI} {l:Loc} (hfi:lk c.G.fns a=some fi) (hl:binds fi.params args (fi.dfl.drop (args.length - (fi.params.length - fi.dfl.length))) (fi.params.length - fi.dfl.length)=some l) (h:ExP c d l T fi.body (fun _ T1=>Q .none T1) Q):CaP c T a args (d+1) Q:=by
 obtain ⟨l',T',h1,q⟩ | ⟨v,T',h1,q⟩:=h
 ·exact ⟨_,_,vD ok (f:=.nxt l') hfi hl h1,q⟩
 ·exact ⟨_,_,vD ok (f:=.ret v) hfi hl h1,q⟩
noncomputable def kd (a:AO):Nat:=match a with
 | .inst C _=>C+6
 | .dict ..=>0 | .list _=>1 | .tuple _=>2 | .range ..=>3 | .exc ..=>4 | .set ..=>5
theorem aJ {T:Hp} {r x:Nat} {a b:AO} (h:T.get r=some a) (g:T.get x=some b) (q:Nat.beq (kd a) (kd b)=false):x≠r:=by
 rintro rfl
 rw [h] at g; cases g
 rw [Nat.beq_refl] at q; cases q
theorem an {T:Hp} {r x:Nat} {a b o:AO} (h:T.get r=some a) (g:T.get x=some b) (q:Nat.beq (kd a) (kd b)=false):(aI T r o).get x=some b:=wN h (aJ h g q) g
end Mine.Internal
namespace Mine.Internal
section
variable {c:Cx} {d:Nat} {loc l:Loc} {T T':Hp} {N:Loc→Hp→Prop} {R:AV→Hp→Prop} {xs:List Nat} {src j acc:Nat} {ik:IK} {b:PSs} {v:AV} {tst:PE} {ck:CK} {ifs:PEs} {KH:Hp→Prop}
theorem qq (h:Lo c xs src ik j b d loc T (.nxt l) T') (q:N l T'):LoP c d loc T xs src ik j b N R:=.inl ⟨_,_,h,q⟩
theorem xb (h:Wl c tst b d loc T (.nxt l) T') (q:N l T'):WlP c d loc T tst b N R:=.inl ⟨_,_,h,q⟩
theorem wn (h:Co c ck acc xs src ik j ifs d loc T T') (q:KH T'):CoP c d loc T ck acc xs src ik j ifs KH:=⟨_,h,q⟩
theorem cmt {op:Cop} {a b:AV} {t w:Bool} (h:Cm c op a b T t) (e:t=w):Cm c op a b T w:=e▸h
end
end Mine.Internal
namespace Mine.Internal
theorem cb {T:Hp} {r x:Nat} {o b:AO} (ne:x≠r) (g:T.get x=some b):(aI T r o).get x=some b:=(gu T ne).trans g
end Mine.Internal
namespace Mine.Internal
section
variable {T:Hp} {r j len ep:Nat} {x:Option AV} {es:List (AV × AV)} {xs:List AV}
theorem kg (h:T.get r=some (.dict es ep)) (hl:es.length=len) (hj:(es.map (·.1))[j]?=x):cV T r j x (.dict len ep):=⟨_,h,hl,hj⟩
theorem cj (h:T.get r=some (.list xs)) (hj:xs[j]?=x):cV T r j x .list:=⟨_,h,hj⟩
theorem vG (h:T.get r=some (.tuple xs)) (hj:xs[j]?=x):cV T r j x .tuple:=⟨_,h,hj⟩
theorem vm {sl g:List Nat} (h:T.get r=some (.set g (some (ep,sl)))) (hl:g.length=len) (hj:(g.map fun k:Nat=>AV.int (k:Int))[j]?=x):cV T r j x (.set len ep sl):=⟨_,h,hl,hj⟩
theorem ikE {sl g:List Nat} (h:T.get r=some (.set g (some (ep,sl)))) (hl:g.length=len):ed T r (.set len ep sl):=⟨_,h,hl⟩
theorem ikD (h:T.get r=some (.dict es ep)) (hl:es.length=len):ed T r (.dict len ep):=⟨_,h,hl⟩
theorem ikL (h:T.get r=some (.list xs)):ed T r .list:=⟨_,h⟩
theorem ikT (h:T.get r=some (.tuple xs)):ed T r .tuple:=⟨_,h⟩
end
end Mine.Internal
namespace Mine.Internal
noncomputable def fld (G:Tab) (C a:Nat):Bool:=match lk G.cls C with | some ci=>ci.flds.contains a | none=>false
noncomputable def mth (G:Tab) (C m:Nat):Option Nat:=match lk G.cls C with | some ci=>lk ci.meths m | none=>none
theorem gL {G:Tab} {C a:Nat} (h:fld G C a=true):∃ ci,lk G.cls C=some ci∧ci.flds.contains a=true:=by
 unfold fld at h
 cases e:lk G.cls C with
 | none=>rw [e] at h; cases h
 | some ci=>rw [e] at h; exact ⟨ci,rfl,h⟩
theorem rN {G:Tab} {C m f:Nat} (h:mth G C m=some f):∃ ci,lk G.cls C=some ci∧lk ci.meths m=some f:=by
 unfold mth at h
 cases e:lk G.cls C with
 | none=>rw [e] at h; cases h
 | some ci=>rw [e] at h; exact ⟨ci,rfl,h⟩
section
variable {c:Cx} {d r C x a m f:Nat} {loc:Loc} {T:Hp} {Q:AV→Hp→Prop} {QL:List AV→Hp→Prop} {N:Loc→Hp→Prop} {R:AV→Hp→Prop} {l:PEs} {e:PE} {v:AV} {fs:List (Nat × AV)} {K:Hp→Prop} {KV:AV→Prop} {KN:Nat→Nat→Prop}
theorem cx (ok:Ok c) (h0:lk loc x=some (.ref r)) (h:T.get r=some (.inst C fs)) (h2:fld c.G C a=true) (h4:lk fs a=some v) (q:Q v T):EvP c d loc T (.attr (.loc x) a) Q:=
 let ⟨_,h5,h6⟩:=gL h2; ⟨_,_,kS ok (aj h0) h h5 h6 h4,q⟩
theorem ft (h:T.get r=some (.inst C fs)) (h2:fld c.G C a=true) (h4:lk fs a=some v) (q:KV v):AtP c T (.ref r) a KV:=let ⟨_,h5,h6⟩:=gL h2; ⟨_,_,_,_,_,rfl,h,h5,h6,h4,q⟩
theorem iQ (h:T.get r=some (.inst C fs)) (h2:mth c.G C m=some f) (h4:lk fs m=none) (q:KN r f):MtP c T (.ref r) m KN:=let ⟨_,h5,h6⟩:=rN h2; ⟨_,_,_,_,_,rfl,h,h5,h6,h4,q⟩
theorem xk (h:T.get r=some (.inst C fs)) (h2:fld c.G C a=true) (h4:fs.length<500) (h5:1≤r) (q:K (aI T r (.inst C (pt fs a v)))):AsP c T (.ref r) a v K:=let ⟨_,h6,h7⟩:=gL h2; ⟨_,_,_,_,rfl,h,h6,h7,h4,h5,q⟩
theorem cD (ok:Ok c) (h0:lk loc x=some (.ref r)) (h:T.get r=some (.inst C fs)) (h2:mth c.G C m=some f) (h4:lk fs m=none) (q:EsP c d loc T l fun vs T2=>CaP c T2 f (.ref r :: vs) d Q):EvP c d loc T (.meth (.loc x) m l) Q:=
 gY ok (aE h0 (iQ h h2 h4 q))
theorem aC (h:lk loc x=some v) (q:EsP c d loc T l fun vs T2=>QL (v :: vs) T2):EsP c d loc T (.cons (.loc x) l) QL:=aA (aE h q)
noncomputable def AlP (c:Cx) (loc:Loc) (x a:Nat) (v:AV) (T:Hp) (K:Hp→Prop):Prop:=∃ r C fs,lk loc x=some (.ref r)∧T.get r=some (.inst C fs)∧fld c.G C a=true∧fs.length<500∧1≤r∧K (aI T r (.inst C (pt fs a v)))
theorem m7 (h0:lk loc x=some (.ref r)) (h:T.get r=some (.inst C fs)) (h2:fld c.G C a=true) (h4:fs.length<500) (h5:1≤r) (q:K (aI T r (.inst C (pt fs a v)))):AlP c loc x a v T K:=⟨_,_,_,h0,h,h2,h4,h5,q⟩
theorem eu (ok:Ok c) (h:EvP c d loc T e fun v T1=>AlP c loc x a v T1 fun T3=>N loc T3):StP c d loc T (.asgA (.loc x) a e) N R:=by
 refine zEEAEEE h fun _ _ h1 _ _ _ gC0=>?_
 refine zAAAAA gC0 fun h0 h3 h4 h6 h7 q=>?_
 refine zEA (gL h4) fun _ h4 h5=>?_
 exact .inl ⟨_,_,sU ok h1 (aj h0) h3 h4 h5 h6 h7,q⟩
end
end Mine.Internal
namespace Mine.Internal
theorem aH {c:Cx} (ok:Ok c) {d a:Nat} {T:Hp} {args:List AV} {Q:AV→Hp→Prop} {fi:FI} {l:Loc} (hfi:lk c.G.fns a=some fi) (hl:binds fi.params args (fi.dfl.drop (args.length - (fi.params.length - fi.dfl.length))) (fi.params.length - fi.dfl.length)=some l) (h:∀ Q':AV→Hp→Prop,(∀ u T',Q u T'→Q' u T')→ExP c d l T fi.body (fun _ T1=>Q' .none T1) Q'):CaP c T a args (d+1) Q:=rZ ok hfi hl (h Q fun _ _ q=>q)
end Mine.Internal
namespace Mine.Internal
theorem Upd.leA {T X:Hp} (u:Upd T.n All T X):T.n≤X.n:=u.1
theorem CaP.imp {c:Cx} {T:Hp} {a d:Nat} {args:List AV} {P Q:AV→Hp→Prop} (h:CaP c T a args d P) (k:∀ v T',P v T'→Q v T'):CaP c T a args d Q:=let ⟨v,T',h,p⟩:=h; ⟨v,T',h,k v T' p⟩
end Mine.Internal
namespace Mine.Internal
theorem ak {l:Loc} {x:Nat} {v:AV}:lk (pt l x v) x=some v:=by rw [bc,if_pos rfl]
theorem aa {l:Loc} {x y:Nat} {v w:AV} (ne:Nat.beq y x=false) (h:lk l y=some w):lk (pt l x v) y=some w:=by rw [bc,if_neg fun e=>by rw [e,Nat.beq_refl] at ne; cases ne]; exact h
theorem yh {c:Cx} {T:Hp} {x y z:Int} (h:x+y=z):Bi c .add (.int x) (.int y) T (.int z) T:=h▸cE
theorem tV {c:Cx} {T:Hp} {x y z:Int} (p:0<y) (h:Int.fmod x y=z):Bi c .mod (.int x) (.int y) T (.int z) T:=h▸rS p
end Mine.Internal
namespace Mine.Internal
theorem cA {c:Cx} (ok:Ok c) {d a:Nat} {T:Hp} {args:List AV} {Q:AV→Hp→Prop} {fi:FI} {l:Loc} (hfi:lk c.G.fns a=some fi) (hl:binds fi.params args (fi.dfl.drop (args.length - (fi.params.length - fi.dfl.length))) (fi.params.length - fi.dfl.length)=some l) (h:∀ l':Loc,(∀ x v,lk l x=some v→lk l' x=some v)→∀ Q':AV→Hp→Prop,(∀ u T',Q u T'→Q' u T')→ExP c d l' T fi.body (fun _ T1=>Q' .none T1) Q'):CaP c T a args (d+1) Q:=rZ ok hfi hl (h l (fun _ _ e=>e) Q fun _ _ q=>q)
end Mine.Internal
end
section
open PySem PySem.W PyProof.Rows
namespace Mine.Internal
noncomputable abbrev tq (c:Cx) (ρ δ:Nat→Addr) (n:Nat) (h0:Heap) (b:Addr):Prop:=h0.get? b=none∧c.hb.get? b=none∧Off c ρ δ n b
noncomputable def Tba (c:Cx) (ρ δ:Nat→Addr) (n:Nat) (h0 h:Heap) (e:Addr) (v:Value):Prop:=
 ∃ o vs t oT ts,h.get? e=some o∧o.data=.fields vs∧vs[1]?=some (.ref t)∧t≠e∧h.get? t=some oT∧oT.data=.fields ts∧ts[3]?=some v∧tq c ρ δ n h0 t
noncomputable def Tbk (c:Cx) (ρ δ:Nat→Addr) (n:Nat) (h0 h:Heap) (e:Addr) (F:Option Addr):Prop:=
 (∃ o vs,h.get? e=some o∧o.data=.fields vs∧vs[1]?=some .none)∨Tba c ρ δ n h0 h e .none∨∃ L,F=some L∧Tba c ρ δ n h0 h e (rawInt L)
structure Nt (c:Cx) (ρ δ:Nat→Addr) (n:Nat) (e:Addr) (h0 h h':Heap):Prop where
 keep:∀ b o,h.get? b=some o→b≠e→tq c ρ δ n h0 b∨∃ sl,h'.get? b=some { o with slots:=sl }∧((c.hb.get? b=none∧Off c ρ δ n b∧∃ es k,o.data=.dict es k)∨sl=o.slots)
 live:∀ b,bl h b→bl h' b
 dct:∀ b,Dl h b→Dl h' b
 ex:∀ o vs,h.get? e=some o→o.data=.fields vs→∃ o' vs',h'.get? e=some o'∧o'.cls=o.cls∧o'.dict=o.dict∧o'.data=.fields vs'
section
variable {c:Cx} {ρ δ:Nat→Addr} {n:Nat} {e:Addr} {h0 h h' h'':Heap}
theorem Nt.trans (a:Nt c ρ δ n e h0 h h') (b:Nt c ρ δ n e h0 h' h''):Nt c ρ δ n e h0 h h'' where
 keep:=fun x o q ne=>(a.keep x o q ne).elim .inl fun ⟨sl,q1,r1⟩=>(b.keep x _ q1 ne).imp id fun ⟨sl2,q2,r2⟩=>⟨sl2,q2,r2.elim (fun z=>.inl z) fun z=>r1.imp id fun y=>z.trans y⟩
 live:=fun x l=>b.live x (a.live x l)
 dct:=fun x l=>b.dct x (a.dct x l)
 ex:=fun o vs q r=>let ⟨o1,v1,q1,c1,d1,f1⟩:=a.ex o vs q r; let ⟨o2,v2,q2,c2,d2,f2⟩:=b.ex o1 v1 q1 f1; ⟨o2,v2,q2,c2.trans c1,d2.trans d1,f2⟩
theorem Nt.push {o:Obj}:Nt c ρ δ n e h0 h (h.push o) where
 keep:=fun x ox q _=>.inr ⟨ox.slots,Heap.get?_push_of_some _ q,.inr rfl⟩
 live:=fun x ⟨ox,q⟩=>⟨ox,Heap.get?_push_of_some _ q⟩
 dct:=fun x ⟨ox,es,k,q,r⟩=>⟨ox,es,k,Heap.get?_push_of_some _ q,r⟩
 ex:=fun ox vs q r=>⟨ox,vs,Heap.get?_push_of_some _ q,rfl,rfl,r⟩
theorem jT {o:Obj} {vs:Array Value} (hd:o.data=.fields vs) (f:Array Value→Array Value):(Obj.mapFields f o).cls=o.cls∧(Obj.mapFields f o).dict=o.dict:=by
 obtain ⟨a,b,d,s⟩:=o; cases hd; exact ⟨rfl,rfl⟩
theorem Nt.set {t:Addr} {o:Obj} {vs:Array Value} {f:Array Value→Array Value} (ht:h.get? t=some o) (hd:o.data=.fields vs) (hx:t=e∨tq c ρ δ n h0 t):Nt c ρ δ n e h0 h (h.update t (Obj.mapFields f)) where
 keep:=fun x ox q ne=>by
  by_cases z:x=t
  ·subst z; exact .inl (hx.resolve_left ne)
  ·exact .inr ⟨ox.slots,(Heap.get?_update_other _ _ (Ne.symm z)).trans q,.inr rfl⟩
 live:=fun x ⟨ox,q⟩=>by
  by_cases z:x=t
  ·subst z; exact ⟨_,Heap.get?_update_self _ ht (Obj.isFreed_of_fields (Obj.data_mapFields hd _))⟩
  ·exact ⟨ox,(Heap.get?_update_other _ _ (Ne.symm z)).trans q⟩
 dct:=fun x ⟨ox,es,k,q,r⟩=>⟨ox,es,k,(Heap.get?_update_other _ _ fun z=>by subst z; rw [ht] at q; cases q; rw [hd] at r; cases r).trans q,r⟩
 ex:=fun ox vs' q r=>by
  by_cases z:e=t
  ·subst z
   rw [ht] at q; cases q
   exact ⟨_,_,Heap.get?_update_self _ ht (Obj.isFreed_of_fields (Obj.data_mapFields hd _)),(jT hd _).1,(jT hd _).2,Obj.data_mapFields hd _⟩
  ·exact ⟨ox,vs',(Heap.get?_update_other _ _ (Ne.symm z)).trans q,rfl,rfl,r⟩
theorem FrL.fun {l:List Env} (f:FrL c ρ δ n h l):h.FunFrames c.hb l:=by
 induction l with
 | nil=>trivial
 | cons a l ih=>
  refine zAEAAAE (f a (.head _)) fun k L e1 e2 _ o gC0=>?_
  refine zEEA gC0 fun es i q r=>?_
  exact ⟨k,⟨L,o,e1,e2,q,fun vs z=>by rw [r] at z; cases z⟩,ih fun x hx=>f x (.tail _ hx)⟩
theorem FrL.mem {l:List Env} (f:FrL c ρ δ n h l) {b:Addr} (hb:b∈l.filterMap (·.frame)):c.hb.get? b=none∧Off c ρ δ n b∧Dl h b:=by
 refine zEA (List.mem_filterMap.mp hb) fun a ha q=>?_
 refine zAEAAA (f a ha) fun _ L e1 e2 o x=>?_
 rw [e1] at q; cases q
 exact ⟨e2,o,x⟩
theorem Nt.slots {l:List Env} (f:FrL c ρ δ n h l) (x:Heap.SlotsOnly (l.filterMap (·.frame)) h h') (he:e∉l.filterMap (·.frame)):Nt c ρ δ n e h0 h h' where
 keep:=fun b o q ne=>by
  by_cases z:b∈l.filterMap (·.frame)
  ·obtain ⟨sl,y⟩:=x.2.2 b o q
   refine zAAEEEA (f.mem z) fun y1 y2 o' es k q' r=>?_
   rw [q] at q'; cases q'
   exact .inr ⟨sl,y,.inl ⟨y1,y2,es,k,r⟩⟩
  ·exact .inr ⟨o.slots,(x.2.1 b z).trans q,.inr rfl⟩
 live:=fun b ⟨o,q⟩=>let ⟨sl,y⟩:=x.2.2 b o q; ⟨_,y⟩
 dct:=fun b ⟨o,es,k,q,r⟩=>let ⟨sl,y⟩:=x.2.2 b o q; ⟨_,es,k,y,r⟩
 ex:=fun o vs q r=>⟨o,vs,(x.2.1 e he).trans q,rfl,rfl,r⟩
end
section
variable {c:Cx} {M:Model} {A:Around} {E:Value→Shared→Prop} {s:Shared} {ρ δ:Nat→Addr} {T:Hp} {h0:Heap} {e L:Addr} {env e0:Env} {l:List Env} {Q:Unit→Shared→Prop}
theorem vN {oe:Obj} {vs:Array Value} {head:Value} {b:Bool} (hr:HR c ρ δ T T.n s.heap) (fm:Fm c ρ δ T.n A s.heap (e0 :: l)) (h00:e0.frame=env.frame) (hf:env.frame=some L) (lv:∀ b,bl h0 b→bl s.heap b)
  (he:s.heap.get? e=some oe) (hd:oe.data=.fields vs) (hsz:1<vs.size)
  (h:∀ h',Nt c ρ δ T.n e h0 s.heap h'→Tba c ρ δ T.n h0 h' e (rawInt L)→Q () { s with heap:=h' }) :
  wpAny M A (do let a ← PySem.frameOf env; let pl ← entryPlaceOf L b; let b ← EntryCells.newEntry head a .none (rawInt L) .none pl; setField (.ref e) 1 b) Q E s:=by
 have hene:e∉(e0 :: l).filterMap (·.frame):=fun hm=>by
  refine zAAEEEA (fm.ok.mem hm) fun _ _ o es k q r=>?_
  rw [he] at q; cases q; rw [hd] at r; cases r
 have fo:PySem.frameOf env=PySem.frameOf e0:=by unfold PySem.frameOf; rw [h00]
 rw [fo]
 refine WB (wpAny_frameOf_fun fm.fr fm.ok.fun (h00.trans hf) fun h₁ hs₁=>?_)
 refine WB (wpAny_entryPlaceOf fun pl hpl=>?_)
 unfold EntryCells.newEntry newFields
 refine WB (wpAny_newObj_type ?_ (hpl.sizeOk5 _ _ _ _ _))
 generalize hob:({ cls:=.type "traceback",dict:=none,data:=.fields ([head,.ref L,.none,rawInt L,.none] ++ (if pl.isEmpty then List.replicate 6 Value.none else pl)).toArray }:Obj)=ob
 have hfr':ob.isFreed=false:=by rw [← hob]; rfl
 have he₁:h₁.get? e=some oe:=(hs₁.2.1 e hene).trans he
 have he₂:=Heap.get?_push_of_some (h:=h₁) ob he₁
 have lt:=Heap.lt_size he₁
 have hn:h₁.objs.size≠e:=Nat.ne_of_gt lt
 have dd:s.heap.get? h₁.objs.size=none:=by
  cases q:s.heap.get? h₁.objs.size with
  | none=>rfl
  | some o=>
   refine zE (hs₁.2.2 _ o q) fun sl z=>?_
   exact absurd (Heap.lt_size z) (Nat.lt_irrefl _)
 have n1:Nt c ρ δ T.n e h0 s.heap h₁:=.slots fm.ok hs₁ hene
 refine wpAny_setField he₂ hd hsz (h _ ((n1.trans .push).trans (.set he₂ hd (.inl rfl))) ⟨_,_,h₁.objs.size,ob,_,Heap.get?_update_self _ he₂ (Obj.isFreed_of_fields (Obj.data_mapFields hd _)),Obj.data_mapFields hd _,?_,hn,(Heap.get?_update_other _ _ (Ne.symm hn)).trans (Heap.get?_push_size h₁ hfr'),by rw [← hob],rfl,?_,hr.dead dd,hr.offNew dd⟩)
 ·simp [hsz]
 ·cases q:h0.get? h₁.objs.size with
  | none=>rfl
  | some o=>obtain ⟨o',z⟩:=lv _ ⟨o,q⟩; rw [dd] at z; cases z
theorem vE (hr:HR c ρ δ T T.n s.heap) (fm:Fm c ρ δ T.n A s.heap (e0 :: l)) (h00:e0.frame=env.frame) (hf:env.frame=some L) (lv:∀ b,bl h0 b→bl s.heap b) (off:∀ t,tq c ρ δ T.n h0 t→t≠e)
  (tk:Tbk c ρ δ T.n h0 s.heap e (some L)) (h:∀ h',Nt c ρ δ T.n e h0 s.heap h'→Tba c ρ δ T.n h0 h' e (rawInt L)→Q () { s with heap:=h' }):wpAny M A (noteFrame (.ref e) env) Q E s:=by
 unfold noteFrame
 simp only [hf]
 have nn:Nt c ρ δ T.n e h0 s.heap s.heap:=⟨fun b o q _=>.inr ⟨o.slots,q,.inr rfl⟩,fun _ x=>x,fun _ x=>x,fun o vs q r=>⟨o,vs,q,rfl,rfl,r⟩⟩
 rcases tk with ⟨oe,vs,he,hd,hv⟩ | ⟨oe,vs,t,oT,ts,he,hd,h1,te,hT,hdT,h3,lo⟩ | ⟨L',hL,oe,vs,t,oT,ts,he,hd,h1,te,hT,hdT,h3,lo⟩
 ·refine WB (wpAny_field he hd hv ?_)
  rw [if_neg (by decide)]
  exact vN hr fm h00 hf lv he hd (Array.getElem?_eq_some_iff.mp hv).1 h
 ·refine WB (wpAny_field he hd h1 ?_)
  rw [if_pos (show (Value.ref t != Value.none)=true from by simp)]
  refine WB (wpAny_field hT hdT h3 ?_)
  rw [if_neg (show ¬ ((Value.none == rawInt L)=true) from by simp [rawInt])]
  refine WB (wpAny_setField hT hdT (Array.getElem?_eq_some_iff.mp h3).1 ?_)
  have n1:Nt c ρ δ T.n e h0 s.heap (s.heap.update t (Obj.mapFields (·.setIfInBounds 3 Value.none))):=.set hT hdT (.inr lo)
  have g1:Go c (fun a=>a=t) ρ δ T.n s.heap ρ δ T.n (s.heap.update t (Obj.mapFields (·.setIfInBounds 3 Value.none))):=⟨Nat.le_refl _,fun _ _=>⟨rfl,rfl⟩,fun i a b=>absurd b (Nat.not_lt.mpr a),fun b o q x y=>⟨o.slots,(Heap.get?_update_other _ _ (Ne.symm y)).trans q,.inr rfl⟩,n1.live,fun b ⟨o,es,k,q,r⟩ _=>⟨o,es,k,(Heap.get?_update_other _ _ fun z=>by subst z; rw [hT] at q; cases q; rw [hdT] at r; cases r).trans q,r⟩⟩
  have hr1:HR c ρ δ T T.n (s.heap.update t (Obj.mapFields (·.setIfInBounds 3 Value.none))):=hr.of_ext (a:=t) (fun b o ne q=>(Heap.get?_update_other _ _ (Ne.symm ne)).trans q) lo.2.2 lo.2.1
  refine vN (s:={ s with heap:=s.heap.update t (Obj.mapFields (·.setIfInBounds 3 Value.none)) }) hr1 (fm.go g1) h00 hf (fun b x=>n1.live b (lv b x)) ((Heap.get?_update_other _ _ te).trans he) hd (Array.getElem?_eq_some_iff.mp h1).1 fun h' y z=>h h' (n1.trans y) z
 ·cases hL
  refine WB (wpAny_field he hd h1 ?_)
  rw [if_pos (show (Value.ref t != Value.none)=true from by simp)]
  refine WB (wpAny_field hT hdT h3 ?_)
  rw [if_pos (show (rawInt L == rawInt L)=true from by simp)]
  exact WQ (h s.heap nn ⟨oe,vs,t,oT,ts,he,hd,h1,te,hT,hdT,h3,lo⟩)
theorem oQ {F:Option Addr} {v:Value} (tb:Tba c ρ δ T.n h0 s.heap e v) (h:∀ h',Nt c ρ δ T.n e h0 s.heap h'→Tba c ρ δ T.n h0 h' e (F.elim .none fun f=>rawInt f)→Q () { s with heap:=h' }):wpAny M A (setFlight (.ref e) F) Q E s:=by
 refine zEEEEEA tb fun oe vs t oT ts he gC0=>?_
 refine zAAAAAA gC0 fun hd h1 te hT hdT h3 lo=>?_
 unfold setFlight
 refine WB (wpAny_field he hd h1 ?_)
 rw [if_pos (show (Value.ref t != Value.none)=true from by simp)]
 have sz:=(Array.getElem?_eq_some_iff.mp h3).1
 exact wpAny_setField hT hdT sz (h _ (.set hT hdT (.inr lo)) ⟨oe,vs,t,_,_,(Heap.get?_update_other _ _ te).trans he,hd,h1,te,Heap.get?_update_self _ hT (Obj.isFreed_of_fields (Obj.data_mapFields hdT _)),Obj.data_mapFields hdT _,by simp [sz],lo⟩)
end
section
variable {c:Cx} {ρ δ:Nat→Addr} {T:Hp} {r C:Nat} {fs:List (Nat × AV)} {h0 h h':Heap}
theorem Nt.go (x:Nt c ρ δ T.n (ρ r) h0 h h') (h1:1≤r) (lt:r<T.n):Go c (fun a=>h0.get? a=none) ρ δ T.n h ρ δ T.n h' where
 le:=Nat.le_refl _
 same:=fun _ _=>⟨rfl,rfl⟩
 fresh:=fun i a b=>absurd b (Nat.not_lt.mpr a)
 keep:=fun b o q off nx=>by
  rcases x.keep b o q (Ne.symm (off r h1 lt).1) with y | ⟨sl,y,z⟩
  ·exact absurd y.1 nx
  ·exact ⟨sl,y,z.imp (·.2.2) id⟩
 live:=x.live
 dct:=fun b z _=>x.dct b z
theorem Nt.hr (x:Nt c ρ δ T.n (ρ r) h0 h h') (hr:HR c ρ δ T T.n h) (h1:1≤r) (ht:T.get r=some (.exc C fs)):HR c ρ δ T T.n h':=by
 refine gp fun gP gH=>?_
 refine zAAEEA (hr.obj r _ ht) fun lt gN0 es k q5 q6=>?_
 obtain ⟨oe,ws,q1,q2,q3,q4⟩:=gN0
 apply gH;clear gH
 have hbs:∀ b o,c.hb.get? b=some o→h'.get? b=some o:=fun b o q=>by
  have ne:b≠ρ r:=fun z=>by rw [z,(hr.new r h1 lt).1] at q; cases q
  rcases x.keep b o (hr.base b o q) ne with y | ⟨sl,y,z⟩
  ·rw [y.2.1] at q; cases q
  ·rcases z with z | z
   ·rw [z.1] at q; cases q
   ·rw [z] at y; exact y
 have own:∀ b o,h.get? b=some o→b≠ρ r→¬ Off c ρ δ T.n b→h'.get? b=some o:=fun b o q ne nf=>by
  rcases x.keep b o q ne with y | ⟨sl,y,z⟩
  ·exact absurd y.2.2 nf
  ·rcases z with z | z
   ·exact absurd z.2.1 nf
   ·rw [z] at y; exact y
 refine ⟨hbs,fun i o q=>?_,hr.new,hr.apart,fun i q=>⟨x.live _ (hr.liv i q).1,x.live _ (hr.liv i q).2⟩,hr.ro,hr.old⟩
 refine zA (hr.obj i o q) fun li oi=>?_
 refine ⟨li,?_⟩
 by_cases z:i=r
 ·subst z
  rw [ht] at q; cases q
  refine zEEAAA (x.ex oe ws q1 q4) fun o' ws' p1 p2 p3 p4=>?_
  refine ⟨⟨o',ws',p1,p2.trans q2,p3.trans q3,p4⟩,es,k,own _ _ q5 (fun w=>?_) (fun w=>(w i h1 lt).2 rfl),q6⟩
  rw [w,q1] at q5
  cases q5; cases q4
 ·have a1:=hr.apart i r li lt z
  have a2:=hr.apart r i lt li (Ne.symm z)
  by_cases i0:1≤i
  ·exact oi.up (Nat.le_refl _) (fun _ _=>rfl) (fun o' q'=>own _ _ q' a1.1 fun w=>(w i i0 li).1 rfl) (fun o' q'=>own _ _ q' (Ne.symm a2.2.1) fun w=>(w i i0 li).2 rfl)
  ·have old:=hr.old i (Nat.lt_of_not_le i0)
   refine oi.up (Nat.le_refl _) (fun _ _=>rfl) (fun o' q'=>?_) (fun o' q'=>?_)
   ·obtain ⟨u,hu⟩:=old.1
    have:=hr.base _ _ hu
    rw [q'] at this; cases this; exact hbs _ _ hu
   ·obtain ⟨u,hu⟩:=old.2
    have:=hr.base _ _ hu
    rw [q'] at this; cases this; exact hbs _ _ hu
theorem Go.late {X:Addr→Prop} {ρ0 δ0:Nat→Addr} {n0 n:Nat} {h0 h h':Heap} (g:Go c X ρ0 δ0 n0 h0 ρ δ n h) (g':Go c (fun a=>h0.get? a=none) ρ δ n h ρ δ n h'):Go c X ρ0 δ0 n0 h0 ρ δ n h' where
 le:=g.le
 same:=g.same
 fresh:=g.fresh
 keep:=fun b o e x y=>let ⟨_,e1,d1⟩:=g.keep b o e x y; let ⟨sl,e2,d2⟩:=g'.keep b _ e1 (g.off x ⟨o,e⟩) (fun z=>by rw [e] at z; cases z); ⟨sl,e2,d2.elim .inl fun q=>d1.imp id q.trans⟩
 live:=fun b x=>g'.live b (g.live b x)
 dct:=fun b x y=>g'.dct b (g.dct b x y) (g.off y (let ⟨o,_,_,e,_⟩:=x; ⟨o,e⟩))
end
end Mine.Internal
end
section
open PySem PySem.W
namespace Mine.Internal
section
variable {prog:Program} {w:World} {A:Around} {E:Value→Shared→Prop} {h:Heap} {g:Array GenState} {d:Drawn} {t:Nat} {os:OsState}
variable {nm q:Str} {C N:Addr} {bs bm:List Value} {hdct:Bool} {sn:List Str} {sub:List Value} {ab:Bool} {col:Option Bool} {dd:Option Addr} {k0 k1 k2 k3 k5:Option Value}
theorem mX {M:Model} {rest:List Value} {Q:Unit→Shared→Prop} (hC:h.get? C=some (excClassObj nm q C N bs bm hdct sn sub ab col dd k0 k1 k2 k3 k5 "ValueError.__new__")) (hV:bm.contains (.type "ValueError")=true)
  (hq:Q () ⟨h,g,d,t,os⟩):wpAny M A (checkBuiltinCall "ValueError.__new__" ⟨.ref C :: rest,[]⟩) Q E ⟨h,g,d,t,os⟩:=by
 have F:=PySem.F.excBase_ValueError
 have hcont:(Value.ref C :: bm).contains (.type "ValueError")=true:=by rw [List.contains_cons,hV,Bool.or_true]
 have hstar:=F.noStar
 unfold checkBuiltinCall
 rw [F.newKind,F.newSplit,F.newRow]
 dsimp only
 repeat (first | refine wpAny_loadPart_at hC ?_ | (refine wpAny_isSubtype_exc hC ?_; rw [hcont]) | refine wpAny_staticBase_exc hC ?_ | refine wpAny_madeBy_exc hC ?_ | (rw [if_neg (by rw [bne_self_eq_false]; exact Bool.false_ne_true)]) | rw [if_pos (by decide)] | wp_step)
 exact hq
theorem yc {R:Result→Shared→Prop} {rest:List Value} (hC:h.get? C=some (excClassObj nm q C N bs bm hdct sn sub ab col dd k0 k1 k2 k3 k5 "ValueError.__new__"))
  (hV:bm.contains (.type "ValueError")=true) (hA:bm.contains (.type "AttributeError")=false) (hN:bm.contains (.type "NameError")=false)
  (hq:R (.ok (.ret (.ref (h.objs.size+1)))) ⟨(h.push { cls:=.type "tuple",data:=.seq rest.toArray }).push { cls:=.ref C,data:=.fields #[.ref h.objs.size,.none,.none,.none,.bool false,.none] },g,d,t,os⟩) (hrest:rest.length≤sizeLine) :
  codeAny (model prog w) A (.builtin "ValueError.__new__" ⟨.ref C :: rest,[]⟩) R ⟨h,g,d,t,os⟩:=by
 have F:=PySem.F.excBase_ValueError
 have hends:=F.ends
 have hcB:(Value.ref C :: bm).contains (.type "ValueError")=true:=by rw [List.contains_cons,hV,Bool.or_true]
 have hcA:(Value.ref C :: bm).contains (.type "AttributeError")=false:=by rw [List.contains_cons,hA]; rfl
 have hcN:(Value.ref C :: bm).contains (.type "NameError")=false:=by rw [List.contains_cons,hN]; rfl
 refine codeAny_builtinAt F.entry ?_
 unfold Builtin.«BaseException.__new__»
 refine wpAt_bind ?_
 show wpAt _ _ _ (stack >>= _) _ _ _
 refine wpAt_bind (wpAt_stack fun p below=>wpAt_of_wpAny ?_)
 wp_walk
 refine wpAt_of_wpAny ?_
 rw [F.owner]
 repeat (first | with_reducible refine wpAny_madeHere_exc F.canon hC ?_ | with_reducible refine wpAny_loadPart_at hC ?_ | (with_reducible refine wpAny_isSubtype_exc hC ?_; first | rw [hcB] | rw [hcA] | rw [hcN]) | wp_step)
 show R _ _
 rw [Heap.size_push]
 exact hq
theorem wj {rest:List Value} {fI:Addr} {Q:Value→Shared→Prop} (hC:h.get? C=some (excClassObj nm q C N bs bm hdct sn sub ab col dd k0 k1 k2 k3 k5 "ValueError.__new__"))
  (hV:bm.contains (.type "ValueError")=true) (hA:bm.contains (.type "AttributeError")=false) (hN:bm.contains (.type "NameError")=false)
  (hlk:Looks (model prog w) h (typeLookup (.ref C) "__init__") (some (.ref fI))) (hfI:Looks (model prog w) h (typeOf (.ref fI)) (.type "function"))
  (hq:∀ h' e,Heap.MadeExcOf h h' e (.ref C) rest →
   wpAny (model prog w) (A.under (.builtin "type.__call__" ⟨.ref C :: rest,[]⟩)) (call (.ref fI) (.ref e :: rest)) (fun r s'=>r=.none∧Q (.ref e) s') E ⟨h',g,d,t,os⟩) (hrest:rest.length≤sizeLine) :
  wpAny (model prog w) A (call (.ref C) rest) Q E ⟨h,g,d,t,os⟩:=by
 have F:=PySem.F.excBase_ValueError
 have f1:=tc_lookup
 have f2:=tc_bind (.ref C)
 have hT:(⟨h,g,d,t,os⟩:Shared).TypeIs (.ref C) "type" := ⟨_,hC,rfl⟩
 refine wpAny_call (codeAny_of_tree ?_)
 show wpAny _ _ (callAny (.ref C) _) _ _ _
 repeat (any_goals (first | assumption | with_reducible refine wpAny_loadPart_at hC ?_ | wp_step))
 refine ⟨rfl,?_⟩
 refine codeAny_call_builtin_at (Code.quiet_builtin _ (by decide +kernel)) entry_typeCall (wpAny_check_type_call_sub hC ?_)
 repeat (first | with_reducible refine wpAny_loadPart_at hC ?_ | with_reducible refine wpAny_madeBy_exc hC ?_ | wp_step)
 refine codeAny_call_builtin_code (Code.quiet_builtin _ F.quiet) (mX hC hV ?_)
 refine yc hC hV hA hN ?_ hrest
 show wpAny _ _ _ _ _ _
 have kp:∀ b o,h.get? b=some o→((h.push { cls:=.type "tuple",data:=.seq rest.toArray }).push { cls:=.ref C,data:=.fields #[.ref h.objs.size,.none,.none,.none,.bool false,.none] }).get? b=some o:=fun b o e=>Heap.get?_push_of_some _ (Heap.get?_push_of_some _ e)
 have hC₁:=kp _ _ hC
 have hget:((h.push { cls:=.type "tuple",data:=.seq rest.toArray }).push
   { cls:=.ref C,data:=.fields #[.ref h.objs.size,.none,.none,.none,.bool false,.none] }).get? (h.objs.size+1)=some
   { cls:=.ref C,data:=.fields #[.ref h.objs.size,.none,.none,.none,.bool false,.none] }:=by heap_get
 have hcC:(Value.ref C :: bm).contains (.ref C)=true:=by simp
 unfold isInstance
 repeat (first | with_reducible refine wpAny_loadPart_at hget ?_ | (with_reducible refine wpAny_isSubtype_exc hC₁ ?_; rw [hcC]) | wp_step)
 show wpAny _ _ (isSubtype (.ref C) (.ref C)) _ _ _
 refine wpAny_isSubtype_exc hC₁ ?_
 rw [hcC]
 repeat (first | with_reducible refine wpAny_loadPart_at hget ?_ | wp_step)
 show wpAny _ _ (typeLookup (.ref C) _) _ _ _
 refine Looks.at (hlk.keeps kp) ?_
 refine WH (WB ?_)
 unfold bindSpecial
 refine WB (Looks.at (hfI.keeps kp) ?_)
 rw [if_pos (by decide)]
 refine WQ (WB (wpAny_mono (hq _ (h.objs.size+1) ⟨kp,Heap.get?_none_of_le (Nat.le_succ _),h.objs.size,hget,Heap.get?_none_of_le (Nat.le_refl _),?_⟩) (fun r s' hr=>?_) fun _ _ x=>x))
 ·exact Heap.get?_push_of_some _ (Heap.get?_push_at rfl rfl)
 ·obtain ⟨rfl,hQ⟩:=hr
  wp_walk
  exact hQ
end
theorem oW:Slot "wrapper_descriptor" "__get__" "wrapper_descriptor.__get__" := .of (owner:="wrapper_descriptor") (n:="__get__") (by rw [typeLookup_type,builtinLookup_eq_fast]; kernel_rfl) (by decide +kernel) (by decide +kernel) (by decide +kernel)
 (by first | exact .inl (by decide +kernel) | exact .inr (by decide +kernel)) (by rw [isSubtype_type]; kernel_rfl)
theorem rE:entryFor table "wrapper_descriptor.__get__" = some Builtin.«wrapper_descriptor.__get__»:=entryFor_of_tree (by kernel_rfl)
theorem tH (a b c:Value):argsOk "wrapper_descriptor.__get__" ⟨[a,b,c],[]⟩:=by unfold argsOk; kernel_rfl
theorem o6:typeOf (.builtin "ValueError.__init__")=pure (.type "wrapper_descriptor"):=by kernel_rfl
section
variable {prog:Program} {w:World} {A:Around} {E:Value→Shared→Prop} {h:Heap} {g:Array GenState} {d:Drawn} {t:Nat} {os:OsState}
variable {nm q:Str} {C N:Addr} {bs bm:List Value} {hdct:Bool} {sn:List Str} {sub:List Value} {ab:Bool} {col:Option Bool} {dd:Option Addr} {k0 k1 k2 k3 k5:Option Value}
noncomputable abbrev d9 (x:Addr):Obj:={ cls:=.type "method-wrapper",data:=.fields #[.builtin "ValueError.__init__",.ref x] }
theorem wm {x:Addr} {ox:Obj} {Q:Fin→Shared→Prop} (hC:h.get? C=some (excClassObj nm q C N bs bm hdct sn sub ab col dd k0 k1 k2 k3 k5 "ValueError.__new__")) (hV:bm.contains (.type "ValueError")=true)
  (hx:h.get? x=some ox) (hxc:ox.cls=.ref C) (hq:Q (.done (.ret (.ref h.objs.size))) ⟨h.push (d9 x),g,d,t,os⟩) :
  wpAny (model prog w) A (Builtin.«wrapper_descriptor.__get__» ⟨[.builtin "ValueError.__init__",.ref x,.ref C],[]⟩) Q E ⟨h,g,d,t,os⟩:=by
 have hcont:(Value.ref C :: bm).contains (.type "ValueError")=true:=by rw [List.contains_cons,hV,Bool.or_true]
 have ho:(".".intercalate ("ValueError.__init__".cutAt '.').dropLast)="ValueError" := by decide +kernel
 unfold Builtin.«wrapper_descriptor.__get__»
 repeat (first | (with_reducible refine wpAny_loadPart_at hx ?_; rw [hxc]) | (with_reducible refine wpAny_isSubtype_exc hC ?_; rw [hcont]) | rw [ho] | wp_step)
 exact hq
theorem nY {so D x:Addr} {ox:Obj} {l₀ l:List Value} {K:Frag} {tk:Tok} {Q:Fin→Shared→Prop} (hC:h.get? C=some (excClassObj nm q C N bs bm hdct sn sub ab col dd k0 k1 k2 k3 k5 "ValueError.__new__")) (hV:bm.contains (.type "ValueError")=true)
  (hx:h.get? x=some ox) (hxc:ox.cls=.ref C) (hso:h.get? so=some { cls:=.type "super",dict:=none,data:=.fields #[.ref D,.ref x,.ref C],slots:=#[] }) (hno:Looks (model prog w) h (opaqueClassAbove (.ref C)) none)
  (hm:Looks (model prog w) h (mroOf (.ref C)) l₀) (hl:(l₀.dropWhile (· != .ref D)).drop 1=l) (X:K.In h) (hf:alongIn K "__init__" l=some (some (.builtin "ValueError.__init__"))) (hxC:x≠C)
  (hq:Q (.done (.ret (.ref h.objs.size))) ⟨h.push (d9 x),g,d,t,os⟩) :
  wpAny (model prog w) A (Builtin.«super.__getattribute__» ⟨[.ref so,.str "__init__" tk],[]⟩) Q E ⟨h,g,d,t,os⟩:=by
 have hlk:=oW.lookup
 have hne:(Value.ref x == Value.ref C)=false:=by simp [hxC]
 have hty:=o6
 have hTf:(⟨h,g,d,t,os⟩:Shared).TypeIs (.builtin "ValueError.__init__") "wrapper_descriptor" := o6
 have hdt:({ cls:=.type "super",dict:=none,data:=.fields #[.ref D,.ref x,.ref C],slots:=#[] }:Obj).data=.fields #[.ref D,.ref x,.ref C]:=rfl
 have f0:(#[.ref D,.ref x,.ref C]:Array Value)[0]?=some (.ref D):=rfl
 have f1:(#[.ref D,.ref x,.ref C]:Array Value)[1]?=some (.ref x):=rfl
 have f2:(#[.ref D,.ref x,.ref C]:Array Value)[2]?=some (.ref C):=rfl
 have hn:(("__init__" : Str) == ("__class__" : Str))=false:=by decide
 unfold Builtin.«super.__getattribute__»
 repeat (first
  | (with_reducible refine wpAny_field hso hdt f0 ?_) | (with_reducible refine wpAny_field hso hdt f1 ?_) | (with_reducible refine wpAny_field hso hdt f2 ?_)
  | (with_reducible refine ks_wpAny_notOpaque hno ?_)
  | (with_reducible refine Looks.at hm ?_; rw [hl])
  | (refine ks_forIn_along X (fun _ _=>rfl) rfl ?_ hf)
  | (with_reducible refine wpAny_typeOf hTf ?_)
  | (with_reducible refine wpAny_call_entry oW hTf rE ?_ (tH _ _ _))
  | (with_reducible refine wm hC hV hx hxc ?_)
  | (with_reducible refine ⟨_,rfl,?_⟩)
  | (rw [if_neg (by rw [hn,hne]; exact Bool.false_ne_true)])
  | (rw [if_neg (by rw [hne,Bool.or_false,hn]; exact Bool.false_ne_true)])
  | (rw [if_neg (by rw [hn]; exact Bool.false_ne_true)])
  | (rw [if_neg (by rw [hne]; exact Bool.false_ne_true)])
  | wp_step
  | dsimp only)
 exact hq
theorem m6 {so D x:Addr} {ox:Obj} {l₀ l:List Value} {K:Frag} {pl:Sem Bool} {Q:Value × List Value→Shared→Prop} (hC:h.get? C=some (excClassObj nm q C N bs bm hdct sn sub ab col dd k0 k1 k2 k3 k5 "ValueError.__new__")) (hV:bm.contains (.type "ValueError")=true)
  (hx:h.get? x=some ox) (hxc:ox.cls=.ref C) (hso:h.get? so=some { cls:=.type "super",dict:=none,data:=.fields #[.ref D,.ref x,.ref C],slots:=#[] }) (hno:Looks (model prog w) h (opaqueClassAbove (.ref C)) none)
  (hm:Looks (model prog w) h (mroOf (.ref C)) l₀) (hl:(l₀.dropWhile (· != .ref D)).drop 1=l) (X:K.In h) (hf:alongIn K "__init__" l=some (some (.builtin "ValueError.__init__"))) (hxC:x≠C)
  (hq:Q (.ref h.objs.size,[]) ⟨h.push (d9 x),g,d,t+1,os⟩) :
  wpAny (model prog w) A (getMethod (.ref so) "__init__" pl) Q E ⟨h,g,d,t,os⟩:=by
 have hlk:=F.ks_slot_super_ga.lookup
 have hcan:=F.ks_canon_super_ga
 have hT:∀ t',(⟨h,g,d,t',os⟩:Shared).TypeIs (.ref so) "super" := fun _=>⟨_,hso,rfl⟩
 unfold getMethod
 refine WB (wpAny_specialOf (hT _) hlk ?_)
 show wpAny _ _ (if (Manifest.canonical "super.__getattribute__" != "object.__getattribute__")=true then _ else _) _ _ _
 rw [if_pos hcan]
 unfold getAttr getAttrBy
 refine WB (WB (wpAny_mkText (WH (WB (wpAny_typeOf (hT _) (WB (wpAny_of_eq hlk ?_)))))))
 show wpAny _ _ (getAttrByItsOwn (.ref so) (.str "__init__" t) (.type "super") (.builtin "super.__getattribute__") true false) _ _ _
 unfold getAttrByItsOwn hookBefore callGetattribute boundAndCalled
 refine WB (wpAny_of_eq (show (if onTheHeap (.type "super") then typeLookup (.type "super") "__getattr__" else pure none)=pure none from rfl) ?_)
 refine WB (wpAny_attempt (WH ?_))
 show wpAny _ _ (bindSpecial (.builtin "super.__getattribute__") (.ref so) >>= _) _ _ _
 refine WB (wpAny_of_eq (F.ks_slot_super_ga.bind _) ?_)
 refine wpAny_mono (Q:=fun v s'=>v=.ref h.objs.size∧s'=⟨h.push (d9 x),g,d,t+1,os⟩) (E:=fun _ _=>False)
  (wpAny_call_entry F.ks_slot_super_ga (hT _) F.ks_entry_super_ga (nY hC hV hx hxc hso hno hm hl X hf hxC ⟨_,rfl,rfl,rfl⟩) (F.ks_gaArgs_super _ _)) (fun v s' hv=>?_) fun _ _ z=>z.elim
 refine zA hv fun gR0 gR1=>?_
 subst gR0
 subst gR1
 exact WQ (WQ hq)
theorem wH {m x ta:Addr} {v:Value} {Q:Value→Shared→Prop} (hC:h.get? C=some (excClassObj nm q C N bs bm hdct sn sub ab col dd k0 k1 k2 k3 k5 "ValueError.__new__")) (hm:h.get? m=some (d9 x)) (hx:h.get? x=some { cls:=.ref C,data:=.fields #[.ref ta,.none,.none,.none,.bool false,.none] })
  (hq:∀ h',h'.get? x=some { cls:=.ref C,data:=.fields #[.ref h.objs.size,.none,.none,.none,.bool false,.none] }→(∀ b o,b≠x→h.get? b=some o→h'.get? b=some o)→Q .none ⟨h',g,d,t,os⟩):wpAny (model prog w) A (call (.ref m) [v]) Q E ⟨h,g,d,t,os⟩:=by
 have F:=F.excBase_ValueError
 refine wpAny_call (codeAny_of_tree ?_)
 show wpAny _ _ (callAny (.ref m) _) _ _ _
 unfold callAny
 refine WB (wpAny_load hm ?_)
 show wpAny _ _ (checkBoundCall "ValueError.__init__" ⟨[.ref x,v],[]⟩ >>= fun _=>again (.builtin "ValueError.__init__" ⟨[.ref x,v],[]⟩)) _ _ _
 have hc:∀ {Q':Unit→Shared→Prop} {E':Value→Shared→Prop} {A':Around},Q' () ⟨h,g,d,t,os⟩→wpAny (model prog w) A' (checkBoundCall "ValueError.__init__" ⟨[.ref x,v],[]⟩) Q' E' ⟨h,g,d,t,os⟩:=by
  intro Q' E' A' q
  unfold checkBoundCall
  have hstar:=F.noStar
  simp -iota only [F.initRow,F.initKind]
  repeat (first | with_reducible refine wpAny_loadPart_at hx ?_ | with_reducible refine wpAny_loadPart_at hC ?_ | with_reducible refine wpAny_load hC ?_ | wp_step)
  all_goals first
   | exact q
   | (refine wpAny_onRaise ?_; rw [show ∀ (a b:String) (n:Nat),Bind.check ⟨.positional,"*","ValueError",.self,[⟨"args",.varPos,false⟩]⟩ a b n (List.map (fun x=>x.fst) ({ pos:=[Value.ref x,v] }:Args).kw)=pure () from fun a b n=>check_star_args _ _ _ _ _ _]; exact WQ q)
 refine WB (hc (WQ ⟨Code.quiet_builtin _ (by decide +kernel),codeAny_builtin F.initEntry ?_⟩))
 unfold Builtin.«BaseException.__init__»
 have hx':=Heap.get?_push_of_some { cls:=.type "tuple",data:=.seq #[v] } hx
 repeat (first | wp_step)
 refine hq _ (Heap.get?_update_self _ hx' rfl) fun b o nb q=>(Heap.get?_update_other _ _ (Ne.symm nb)).trans (Heap.get?_push_of_some _ q)
end
open Builtin Builtin.ObjectAttr
section
variable {prog:Program} {w:World} {A:Around} {E:Value→Shared→Prop} {s:Shared} {K:Frag} {x C:Addr} {ox:Obj} {od:Option Obj}
theorem xH {l:List Value} {name:Str} {v:Value} {Q:Unit→Shared→Prop} (X:K.In s.heap) (I:InstAt s.heap x ox C od) (hs:findIn K (.ref C) "__setattr__" = some (some (.builtin "object.__setattr__")))
  (hm:Looks (model prog w) s.heap (mroOf (.ref C)) l) (hr:∀ self,refuseLoop self "__setattr__" l=pure ()) (ho:mroIn K C (.type "object")=some true) (hn:findIn K (.ref C) name=some none)
  (h:wpAny (model prog w) A.in1 (storeInOwnDict (.ref x) (.ref C) (.str name s.toks) name v false) (fun fin s'=>fin=.done (.ret .none)∧Q () s') E { s with toks:=s.toks+1 }) :
  wpAny (model prog w) A (setAttr (.ref x) name v) Q E s:=by
 have SF:=PySem.F.store_object
 refine set_plain X I hs ?_
 have sub:Looks (model prog w) s.heap (isInstance (.ref x) (.type "object")) true:=I.type.andThen (looks_mroIn X ho)
 refine codeAny_call_builtin SF.slot.plain SF.entry (@check_slot (model prog w) _ _ { s with toks:=s.toks+1 } "object.__setattr__" "object" "__setattr__" (.ref x) [.str name s.toks,v] [] _ SF.kind SF.split sub (SF.args (.ref x) (.str name s.toks) v) ?_)
 rw [osa_eq,refuse_eq]
 refine WB (WB (Looks.here (s:={ s with toks:=s.toks+1 }) I.type (WB (Looks.here (s:={ s with toks:=s.toks+1 }) hm ?_))))
 rw [hr]
 refine WQ (WB (Looks.here (s:={ s with toks:=s.toks+1 }) I.type (WB (Looks.here (s:={ s with toks:=s.toks+1 }) (looks_findIn X hn) (WB (WQ (a:=(none:Option Value)) ?_))))))
 refine wpAny_mono h (fun fin s' z=>?_) fun _ _ z=>z
 obtain ⟨rfl,z⟩:=z
 exact z
end
section
variable {c:Cx} {prog:Program} {w:World} {A:Around} {E:Value→Shared→Prop} {s:Shared} {K:Frag} {x C D:Addr} {n:Nat} {ρ:Nat→Addr} {fs:List (Nat × AV)} {a:Nat} {av:AV} {v:Value} {cd:ClassData} {es:List DictEntry} {k:Nat} {dt0:Array Value} {sl:Array (Option Value)}
theorem vh {tk:Tok} {Q:Fin→Shared→Prop} (hD:s.heap.get? D=some (dictOf es k)) (F:FsR n ρ fs es) (hl:fs.length<500) (vr:VR n ρ av v)
  (h:∀ es' k' t',(s.heap.update D (Obj.putName (nmS a) (PyData.keyHash w.params (nmS a)) (.str (nmS a) s.toks) v)).get? D=some (dictOf es' k')→FsR n ρ (pt fs a av) es'→Q (.done (.ret .none)) { s with heap:=s.heap.update D (Obj.putName (nmS a) (PyData.keyHash w.params (nmS a)) (.str (nmS a) s.toks) v),toks:=t' }) :
  wpAny (model prog w) A (storeInDict D (.str (nmS a) tk) (nmS a) v) Q E s:=by
 have hfr:(Obj.putName (nmS a) (PyData.keyHash w.params (nmS a)) (.str (nmS a) s.toks) v (dictOf es k)).isFreed=false:=by rw [putName_dict]; rfl
 have D':=Heap.get?_update_self (Obj.putName (nmS a) (PyData.keyHash w.params (nmS a)) (.str (nmS a) s.toks) v) hD hfr
 rw [putName_dict] at D'
 unfold storeInDict newKeyGuard
 refine WB (WQ (WB ?_))
 unfold nsSet
 refine WB (WB (wpAny_askSetting (WQ (WB (wpAny_mkText (WB (wpAny_loadPart hD ?_)))))))
 dsimp only
 have cc:(!es.toArray.any (·.key.isStr (nmS a)) && es.toArray.any (·.refKey))=false:=by
  rw [← Array.any_toList,← Array.any_toList,F.norefs,Bool.and_false]
 rw [aRefKeyMayBeTheName_at,cc]
 refine wpAny_updatePart hD ?_
 have hz:(putL (nmS a) (PyData.keyHash w.params (nmS a)) (.str (nmS a) s.toks) v es).toArray.size≤sizeLine+1:=by
  have h1:=jc (nmS a) (PyData.keyHash w.params (nmS a)) (.str (nmS a) s.toks) v es
  rw [List.size_toArray,sizeLine_eq]
  have:=F.len
  omega
 refine WB (wpAny_lookBehind D' (pastItsLine_dict hz) ?_)
 exact WQ (h _ _ _ D' (F.put vr))
theorem wo {tk:Tok} {Q:Fin→Shared→Prop} (X:K.In s.heap) (hc:clsIn K C=some cd) (hd:cd.hasDict=true) (hx:s.heap.get? x=some ⟨.ref C,none,.fields dt0,sl⟩) (vr:VR n ρ av v)
  (h:∀ h' es' k' t',h'.get? x=some ⟨.ref C,some s.heap.objs.size,.fields dt0,sl⟩→h'.get? s.heap.objs.size=some (dictOf es' k')→FsR n ρ [(a,av)] es'→(∀ b o,b≠x→s.heap.get? b=some o→h'.get? b=some o)→Q (.done (.ret .none)) { s with heap:=h',toks:=t' }) :
  wpAny (model prog w) A (storeInOwnDict (.ref x) (.ref C) (.str (nmS a) tk) (nmS a) v false) Q E s:=by
 have hxs:x≠s.heap.objs.size:=Nat.ne_of_lt (Heap.lt_size hx)
 have hx₁:(s.heap.push { cls:=.type "dict",data:=.dict #[] }).get? x=some ⟨.ref C,none,.fields dt0,sl⟩:=Heap.get?_push_of_some _ hx
 unfold storeInOwnDict
 refine WB (WQ (WB ?_))
 refine WB (wpAny_loadPart hx (WB ((looks_clsIn X hc).here ?_)))
 rw [hd]
 refine WB (wpAny_alloc' ?_)
 refine WB (wpAny_update' hx₁ ?_)
 refine WQ ?_
 have hgx:((s.heap.push { cls:=.type "dict",data:=.dict #[] }).update x fun o=>{ o with dict:=some s.heap.objs.size }).get? x=some ⟨.ref C,some s.heap.objs.size,.fields dt0,sl⟩:=Heap.get?_update_self _ hx₁ rfl
 have hgd:((s.heap.push { cls:=.type "dict",data:=.dict #[] }).update x fun o=>{ o with dict:=some s.heap.objs.size }).get? s.heap.objs.size=some (dictOf [] 0):=
  (Heap.get?_update_other _ _ hxs).trans (Heap.get?_push_at rfl rfl)
 refine vh (s:={ s with heap:=(s.heap.push { cls:=.type "dict",data:=.dict #[] }).update x fun o=>{ o with dict:=some s.heap.objs.size } }) (fs:=[]) hgd trivial (by decide) vr fun es' k' t' q f=>h _ es' k' t' ((Heap.get?_update_other _ _ (Ne.symm hxs)).trans hgx) q f fun b o nb q=>?_
 exact (Heap.get?_update_other _ _ (Ne.symm (Nat.ne_of_lt (Heap.lt_size q)))).trans ((Heap.get?_update_other _ _ (Ne.symm nb)).trans (Heap.get?_push_of_some _ q))
theorem wb {tk:Tok} {Q:Fin→Shared→Prop} (X:K.In s.heap) (hc:clsIn K C=some cd) (hd:cd.hasDict=true) (hx:s.heap.get? x=some ⟨.ref C,some D,.fields dt0,sl⟩) (hD:s.heap.get? D=some (dictOf es k)) (F:FsR n ρ fs es) (hl:fs.length<500) (vr:VR n ρ av v)
  (h:∀ h' es' k' t',h'.get? x=some ⟨.ref C,some D,.fields dt0,sl⟩→h'.get? D=some (dictOf es' k')→FsR n ρ (pt fs a av) es'→(∀ b o,b≠D→s.heap.get? b=some o→h'.get? b=some o)→Q (.done (.ret .none)) { s with heap:=h',toks:=t' }) :
  wpAny (model prog w) A (storeInOwnDict (.ref x) (.ref C) (.str (nmS a) tk) (nmS a) v false) Q E s:=by
 have hxD:x≠D:=fun z=>by rw [z,hD] at hx; cases hx
 unfold storeInOwnDict
 refine WB (WQ (WB ?_))
 refine WB (wpAny_loadPart hx (WB ((looks_clsIn X hc).here ?_)))
 rw [hd]
 refine WQ (a:=some D) ?_
 exact vh hD F hl vr fun es' k' t' q f=>h _ es' k' t' ((Heap.get?_update_other _ _ (Ne.symm hxD)).trans hx) q f fun b o nb q=>(Heap.get?_update_other _ _ (Ne.symm nb)).trans q
end
noncomputable abbrev d6:Nat:=1702064248
noncomputable abbrev fE:Nat:=439770836337
theorem o0:nmS d6="word" := by decide +kernel
theorem lR:nmS fE="place" := by decide +kernel
noncomputable def jt (p0 p1 ap p2 p3 p4 q1 q2 q3 q4 r1 r2 r3 r4:Pos):List Stmt:=
 [.Expr (.Call (.Attribute (.Call (.Name "super" p0) [] [] p1) "__init__" ap) [.Name "word" p2] [] p3) p4,
 .Assign [.Attribute (.Name "self" q1) "word" q2] (.Name "word" q3) q4,
 .Assign [.Attribute (.Name "self" r1) "place" r2] (.Name "place" r3) r4]
noncomputable def oF (K:Frag) (a:Nat):Obj:=(K.lookup a).getD default
noncomputable def fF (o:Obj):FuncData:=match o.data with | .func fd=>fd | _=>default
noncomputable def cF (o:Obj):ClassData:=match o.data with | .cls cd=>cd | _=>default
noncomputable def vF (o:Obj):Array Value:=match o.data with | .fields vs=>vs | _=>#[]
noncomputable def aF (v:Value):Nat:=match v with | .ref a=>a | _=>0
noncomputable def sF (v:Value):Str:=match v with | .str s _=>s | _=>Str.empty
noncomputable def tF' (v:Value):Tok:=match v with | .str _ t=>t | _=>0
noncomputable abbrev xF (o:Obj) (C:Nat):Obj:=excClassObj (cF o).name (cF o).qualname C (cF o).ns (cF o).bases ((cF o).mro.drop 1) (cF o).hasDict (cF o).slotNames (cF o).subclasses (cF o).abstract (cF o).collection o.dict (o.slots.getD 0 none) (o.slots.getD 1 none) (o.slots.getD 2 none) (o.slots.getD 3 none) (o.slots.getD 5 none) "ValueError.__new__"
structure PsI where
 (p0 p1 ap p2 p3 p4 q1 q2 q3 q4 r1 r2 r3 r4:Pos)
structure ExT (K:Frag) (prog:Program) (D fI:Nat) (P:PsI):Prop where
 a1:K.lookup fI=some (oF K fI)
 a2:(oF K fI).data=.func (fF (oF K fI))
 a3:(P.ap.endLine == P.p3.line)=true
 a4:(fF (oF K fI)).body=.stmts (jt P.p0 P.p1 P.ap P.p2 P.p3 P.p4 P.q1 P.q2 P.q3 P.q4 P.r1 P.r2 P.r3 P.r4)
 a5:codeIn K (fF (oF K fI)).code (fF (oF K fI)).qualname=true
 a6:(fF (oF K fI)).closure=[(("__class__" : Str),((fF (oF K fI)).closure.head?.map (·.2)).getD 0)]
 a7:(fF (oF K fI)).scope.kind=.function
 a8:(fF (oF K fI)).scope.isCoroutine=false
 a9:(fF (oF K fI)).scope.isGenerator=false
 a10:(fF (oF K fI)).globals=mainGlobals
 a11:(fF (oF K fI)).builtins=builtinsNs
 a12:(fF (oF K fI)).scope.names=[(("self" : Str),.local),(("word" : Str),.local),(("place" : Str),.local),(("__class__" : Str),.free),(("super" : Str),.globalImplicit)]
 a13:((fF (oF K fI)).params.posonlyargs ++ (fF (oF K fI)).params.args).head?.map (·.arg)=some "self"
 a14:(fF (oF K fI)).code=.ref (aF (fF (oF K fI)).code)
 a15:K.lookup (aF (fF (oF K fI)).code)=some (oF K (aF (fF (oF K fI)).code))
 a16:(oF K (aF (fF (oF K fI)).code)).data=.fields (vF (oF K (aF (fF (oF K fI)).code)))
 a17:(vF (oF K (aF (fF (oF K fI)).code)))[2]?=some (.str (sF ((vF (oF K (aF (fF (oF K fI)).code))).getD 2 .none)) (tF' ((vF (oF K (aF (fF (oF K fI)).code))).getD 2 .none)))
 a18:((prog.main.file:Str) == sF ((vF (oF K (aF (fF (oF K fI)).code))).getD 2 .none))=true
 a19:K.lookup (((fF (oF K fI)).closure.head?.map (·.2)).getD 0)=some (oF K (((fF (oF K fI)).closure.head?.map (·.2)).getD 0))
 a20:(oF K (((fF (oF K fI)).closure.head?.map (·.2)).getD 0)).data=.cell (some (.ref D))
 a21:∀ a b d:Value,∀ S,peek K S (bindArgs (fF (oF K fI)) ⟨[a,b,d],[]⟩)=some [(("self" : Str),a),(("word" : Str),b),(("place" : Str),d)]
 a22:(prog.main.scope.names.lookup ("super" : Str)).isSome=false
 a23:nsIn K mainGlobals "super" = some none
structure ExC (K:Frag) (D C fI:Nat):Prop where
 b1:K.lookup C=some (xF (oF K C) C)
 b2:((cF (oF K C)).mro.drop 1).contains (.type "ValueError")=true
 b3:((cF (oF K C)).mro.drop 1).contains (.type "AttributeError")=false
 b4:((cF (oF K C)).mro.drop 1).contains (.type "NameError")=false
 b5:((cF (oF K C)).mro.drop 1).contains (.type "BaseException")=true
 b6:∀ self,refuseLoop self "__setattr__" (.ref C :: (cF (oF K C)).mro.drop 1)=pure ()
 b7:alongIn K "__init__" ((((Value.ref C :: (cF (oF K C)).mro.drop 1)).dropWhile (· != .ref D)).drop 1)=some (some (.builtin "ValueError.__init__"))
 b8:clsIn K C=some (cF (oF K C))
 b9:(cF (oF K C)).hasDict=true
 b10:clsIn K D=some (cF (oF K D))
 b11:mroIn K C (.ref D)=some true
 b12:mroIn K D (.type "BaseException")=some true
 b13:typeIn K (.ref D)=some (.type "type")
 b14:mroIn K C (.type "object")=some true
 b15:findIn K (.ref C) "__init__" = some (some (.ref fI))
 b16:typeIn K (.ref fI)=some (.type "function")
 b17:findIn K (.ref C) "__setattr__" = some (some (.builtin "object.__setattr__"))
 b18:findIn K (.ref C) "__getattribute__" = some (some (.builtin "BaseException.__getattribute__"))
 b19:findIn K (.ref C) "__getattr__" = some none
 b20:findIn K (.ref C) "word" = some none
 b21:findIn K (.ref C) "place" = some none
 b22:nsIn K cStatics "thirdparty.any" = some none
 b23:keepIn K (.ref C)=true
 b24:exmOne K (.ref C) (.ref D)=some true
 b25:mroIn K C (.type "BaseException")=some true
noncomputable def jG (c:Cx) (D C:Nat):Prop:=∃ fI P,ExC c.K D C fI∧ExT c.K c.prog D fI P
theorem vX {prog:Program} {w:World} {A:Around} {E:Value→Shared→Prop} {s:Shared} {env:Env} {cd:Code} {o:PySem.Expr} {name x:Str} {apos pos xp:Pos} {Q:Value→Shared→Prop} (hl:(apos.endLine == pos.line)=true)
  (h:wpAt (model prog w) A cd (attributeBase o name env (eval o env)) (fun ov s₁=>∀ pl,wpAny (model prog w) A (getMethod ov name pl) (fun fx s₂=>wpAny (model prog w) A (callWith pos fx.1 fx.2 (backTo pos (starEach [.Name x xp] env)) []) Q E s₂) E s₁) E s) :
  wpAt (model prog w) A cd (eval (.Call (.Attribute o name apos) [.Name x xp] [] pos) env) Q E s:=by
 show wpAt _ _ _ (attributeBase o name env (eval o env) >>= fun ov=>standAt apos.atName >>= fun _=>methodCall o name apos pos env ov 1 (backTo pos (starEach [.Name x xp] env)) []) _ _ _
 refine wpAt_bind (ks_wpAt_mono h (fun ov s₁ h₁=>wpAt_of_wpAny (WB (wpAny_standAt ?_))) fun _ _ x=>x)
 have hf:methodCallForm 1 (backTo pos (starEach [.Name x xp] env)) []=true:=rfl
 unfold methodCall calleeOf methodCallPos
 rw [hf,if_pos rfl]
 refine WB (WH (wpAny_mono (h₁ _) (fun fx s₂ h₂=>?_) fun _ _ x=>x))
 rw [hl]
 exact WB (WQ h₂)
theorem vQ {prog:Program} {w:World} {A:Around} {E:Value→Shared→Prop} {s:Shared} {fd:FuncData} {L f e:Addr} {attr y:Str} {q1 q2 q3 q4:Pos} {m:Str→Option Value} {v:Value} {Q:Flow→Shared→Prop} (hk:fd.scope.kind=.function)
  (k1:(callEnv fd L f).kindOf "self" = some .local) (k2:(callEnv fd L f).kindOf y=some .local) (hn:s.heap.Ns L m) (m1:m "self" = some (.ref e)) (m2:m y=some v) (hy:(y == ("__debug__" : Str))=false)
  (h:wpAny (model prog w) A (setAttr (.ref e) attr v) (fun _=>Q .next) E s):wpAny (model prog w) A (exec (.Assign [.Attribute (.Name "self" q1) attr q2] (.Name y q3) q4) (callEnv fd L f)) Q E s:=by
 refine wpAny_Assign_stores (ldc hk k2 hn m2 ?_ hy) rfl rfl
 show wpAny _ _ (holding [v] (eval (.Name "self" q1) (callEnv fd L f)) >>= fun ov=>standAt q2.atName >>= fun _=>holding [v,ov] (setAttr ov attr v) >>= fun _=>release [v,ov] []) _ _ _
 exact WB (WH (ldc hk k1 hn m1 (WB (wpAny_standAt (WB (WH (wpAny_mono h (fun _ _ z=>wpAny_release z) fun _ _ z=>z)))))))
section
variable {c:Cx} {A:Around} {E:Value→Shared→Prop} {h:Heap} {g:Array GenState} {d:Drawn} {t:Nat} {os:OsState} {D C fI:Nat}
theorem mF (ok:Ok c) {o:Obj} {fd:FuncData} {p0 p1 ap p2 p3 p4 q1 q2 q3 q4 r1 r2 r3 r4:Pos} {cc cda:Addr} {oc ocl:Obj} {vs:Array Value} {file:Str} {tf:Tok} {ar:Arg} {nm q:Str} {N:Addr} {bs bm:List Value} {hdct:Bool} {sn:List Str} {sub:List Value} {ab:Bool} {col:Option Bool} {dd:Option Addr} {k0 k1 k2 k3 k5:Option Value} {cdD cd:ClassData}
  (h1:c.K.lookup fI=some o) (h2:o.data=.func fd) (hap:(ap.endLine == p3.line)=true) (h3:fd.body=.stmts (jt p0 p1 ap p2 p3 p4 q1 q2 q3 q4 r1 r2 r3 r4)) (h4:codeIn c.K fd.code fd.qualname=true) (h5:fd.closure=[(("__class__" : Str),cc)]) (h6:fd.scope.kind=.function) (h7:fd.scope.isCoroutine=false) (h8:fd.scope.isGenerator=false) (h9:fd.globals=mainGlobals) (h10:fd.builtins=builtinsNs)
  (h11:fd.scope.names=[(("self" : Str),.local),(("word" : Str),.local),(("place" : Str),.local),(("__class__" : Str),.free),(("super" : Str),.globalImplicit)]) (h12:(fd.params.posonlyargs ++ fd.params.args).head?=some ar) (h13:ar.arg="self") (h14:fd.code=.ref cda) (h15:c.K.lookup cda=some oc) (h16:oc.data=.fields vs) (h17:vs[2]?=some (.str file tf)) (h18:((c.prog.main.file:Str) == file)=true) (h19:c.K.lookup cc=some ocl) (h20:ocl.data=.cell (some (.ref D)))
  (h21:∀ a b d:Value,∀ S,peek c.K S (bindArgs fd ⟨[a,b,d],[]⟩)=some [(("self" : Str),a),(("word" : Str),b),(("place" : Str),d)]) (htop:(c.prog.main.scope.names.lookup ("super" : Str)).isSome=false) (hsup:nsIn c.K mainGlobals "super" = some none)
  (c1:c.K.lookup C=some (excClassObj nm q C N bs bm hdct sn sub ab col dd k0 k1 k2 k3 k5 "ValueError.__new__")) (c2:bm.contains (.type "ValueError")=true) (c6:∀ self,refuseLoop self "__setattr__" (.ref C :: bm)=pure ()) (c7:alongIn c.K "__init__" ((((Value.ref C :: bm)).dropWhile (· != .ref D)).drop 1)=some (some (.builtin "ValueError.__init__"))) (hcD:clsIn c.K D=some cdD) (hcd:clsIn c.K C=some cd) (hdict:cd.hasDict=true) (xo:ExC c.K D C fI)
  {e ta:Addr} {wv pv:Value} {w p:AV} {n:Nat} {ρ:Nat→Addr} {Q:Value→Shared→Prop} (kb:∀ b o,c.hb.get? b=some o→h.get? b=some o) (hroom:A.depth<950) (vw:VR n ρ w wv) (vp:VR n ρ p pv)
  (hE:c.hb.get? e=none) (he:h.get? e=some { cls:=.ref C,data:=.fields #[.ref ta,.none,.none,.none,.bool false,.none] })
  (hq:∀ h' Dd es k ta' t',(∀ b o,b≠e→h.get? b=some o→h'.get? b=some o)→h.get? Dd=none→h'.get? e=some ⟨.ref C,some Dd,.fields #[.ref ta',.none,.none,.none,.bool false,.none],#[]⟩→h'.get? Dd=some (dictOf es k)→FsR n ρ [(d6,w),(fE,p)] es→Q .none ⟨h',g,d,t',os⟩) :
  wpAny (model c.prog c.w) A (call (.ref fI) [.ref e,wv,pv]) Q E ⟨h,g,d,t,os⟩:=by
 refine zEEAA ok.nss fun mg mb n1 n2 n3=>?_
 have X:c.K.In h:=ok.k.keeps kb
 refine wpAny_call ?_
 refine ks_codeAny_call_defAt (fd:=fd) (body:=jt p0 p1 ap p2 p3 p4 q1 q2 q3 q4 r1 r2 r3 r4) (binds:=[(("self" : Str),.ref e),(("word" : Str),wv),(("place" : Str),pv)]) (by unfold recursionLimit; omega) (X _ _ h1) h2 (ok.nolim.keeps kb) (codeRec_of X h4) h3
  (kp_binds X (h21 _ _ _)) (by rw [h11]; decide) (by rw [h11]; intro x hx; simp only [List.mem_cons,List.not_mem_nil,or_false] at hx; rcases hx with rfl | rfl | rfl <;> rfl) (fun h₀ hns kp=>?_) h7 h8 h6
 have X1:c.K.In h₀:=X.keeps kp
 have kd:∀ y:Str,(callEnv fd h.objs.size fI).kindOf y=fd.scope.names.lookup y:=fun _=>rfl
 have ks:(callEnv fd h.objs.size fI).kindOf "super" = some .globalImplicit:=by rw [kd,h11]; rfl
 have kc:(callEnv fd h.objs.size fI).kindOf "__class__" = some .free:=by rw [kd,h11]; rfl
 have kself:(callEnv fd h.objs.size fI).kindOf "self" = some .local:=by rw [kd,h11]; rfl
 have kword:(callEnv fd h.objs.size fI).kindOf "word" = some .local:=by rw [kd,h11]; rfl
 have kplace:(callEnv fd h.objs.size fI).kindOf "place" = some .local:=by rw [kd,h11]; rfl
 have cdD':∃ oD,c.K.lookup D=some oD∧oD.data=.cls cdD:=by
  exact rj hcD
 refine zEA cdD' fun oD hD1 hD2=>?_
 have hL:h.get? h.objs.size=none:=bo _ (Nat.le_refl _)
 have eL:e≠h.objs.size:=Nat.ne_of_lt (Heap.lt_size he)
 have eC:e≠C:=fun z=>by
  have:=ok.k _ _ c1
  rw [← z,hE] at this; cases this
 have l1:((callEnv fd h.objs.size fI).cells).lookup ("__class__" : Str)=some cc:=by
  show fd.closure.lookup _=_
  rw [h5]; rfl
 refine ks_wpAt_execs_cons (ks_wpAt_Expr_any (vX hap (ks_wpAt_super_base (env:=callEnv fd h.objs.size fI) (f:=fI) ks kc (by decide) rfl (X1 _ _ h1) h2 h12 h14 (X1 _ _ h15) h16 h17 h18 htop ?_)) ?_ ?_)
 rotate_left
 ·unfold interactive; rw [show (callEnv fd h.objs.size fI).scope.kind=.function from h6]; rfl
 ·rfl
 have kb1:∀ b o,c.hb.get? b=some o→h₀.get? b=some o:=fun b o q=>kp b o (kb b o q)
 refine ks_loadName_global h6 ks (Calls.loadGlobal_builtin (env:=callEnv fd h.objs.size fI) (by rw [show (callEnv fd h.objs.size fI).globals=mainGlobals from h9]; exact n1.keeps kb1) (mg_none_of ok.k n1 hsup) (by rw [show (callEnv fd h.objs.size fI).builtins=builtinsNs from h10]; exact n2.keeps kb1) ((n3 _ (by decide)).trans (by rfl)) ⟨rfl,?_⟩)
 refine wpAny_loadName_free h6 kc l1 ⟨_,X1 _ _ h19,h20⟩ ?_
 rw [h13]
 refine wpAny_loadName_local h6 kself hns rfl ?_
 refine ks_wpAny_isType_cls (X1 _ _ hD1) hD2 ⟨rfl,?_⟩
 have he0:=kp _ _ he
 refine ks_wpAny_call_super (X1 _ _ hD1) hD2 he0 rfl (fun c e=>by cases e) (looks_mroIn X1 xo.b11) (fun h2' e2 k2 pl=>?_)
 have kb2:∀ b o,c.hb.get? b=some o→h2'.get? b=some o:=fun b o q=>k2 b o (kb1 b o q)
 have X2:c.K.In h2':=ok.k.keeps kb2
 have hC2:=X2 _ _ c1
 have he2:=k2 _ _ he0
 have lm:∀ {hh:Heap},c.K.In hh→Looks (model c.prog c.w) hh (mroOf (.ref C)) (.ref C :: bm):=fun {hh} Y A Q E s k q=>by
  refine gp fun gP gH=>?_
  obtain ⟨h',g',d',t',os'⟩:=s
  apply gH;clear gH
  exact wpAny_mroOf_exc (k _ _ (Y _ _ c1)) q
 refine m6 hC2 c2 he2 rfl e2 (looks_opaque X2 xo.b22) (lm X2) rfl X2 c7 eC ?_
 refine zEEEA hns fun oL esL epL hL0 hLr=>?_
 have hns3:(h2'.push (d9 e)).Ns h.objs.size (fun x=>[(("self" : Str),Value.ref e),(("word" : Str),wv),(("place" : Str),pv)].reverse.lookup x):=⟨oL,esL,epL,Heap.get?_push_of_some _ (k2 _ _ hL0),hLr⟩
 unfold callWith
 refine WB (WH (Calls.evalArgs_plain ?_))
 refine Calls.spliced_cons (ldc h6 kword hns3 rfl ?_)
 refine Calls.spliced_nil ?_
 refine WB (wpAny_standAt ?_)
 have hm3:(h2'.push (d9 e)).get? h2'.objs.size=some (d9 e):=Heap.get?_push_at rfl rfl
 have kp3:∀ tk,wpAny (model c.prog c.w) (A.deeper (callEnv fd h.objs.size fI)) (keeperOf (.ref h2'.objs.size)) (fun kk s'=>kk=.machine∧s'=⟨h2'.push (d9 e),g,d,tk,os⟩) (fun _ _=>False) ⟨h2'.push (d9 e),g,d,tk,os⟩:=by
  intro tk
  unfold keeperOf
  repeat (first | with_reducible refine wpAny_loadPart_at hm3 ?_ | with_reducible refine wpAny_load hm3 ?_ | wp_step)
  all_goals exact ⟨rfl,rfl⟩
 refine WB (wpAny_mono (kp3 _) (fun kk s' z=>?_) fun _ _ z=>z.elim)
 refine zA z fun gR0 gR1=>?_
 subst gR0
 subst gR1
 show wpAny _ _ (call (.ref h2'.objs.size) [wv] [] >>= fun r=>holding [r] point >>= fun _=>pure r) _ _ _
 refine WB (wH (Heap.get?_push_of_some _ hC2) hm3 (Heap.get?_push_of_some _ he2) fun h4 he4 k4=>WB (WH (wpAny_point (WQ ?_))))
 have ne2:h.objs.size≠e:=Ne.symm eL
 have k04:∀ b o,b≠e→h₀.get? b=some o→h4.get? b=some o:=fun b o nb q=>k4 b o nb (Heap.get?_push_of_some _ (k2 b o q))
 have hns4:h4.Ns h.objs.size (fun x=>[(("self" : Str),Value.ref e),(("word" : Str),wv),(("place" : Str),pv)].reverse.lookup x):=⟨oL,esL,epL,k04 _ _ ne2 hL0,hLr⟩
 have kb4:∀ b o,c.hb.get? b=some o→h4.get? b=some o:=fun b o q=>k04 b o (fun z=>by rw [z,hE] at q; cases q) (kb1 b o q)
 have X4:c.K.In h4:=ok.k.keeps kb4
 refine ks_wpAt_execs_cons (wpAt_of_wpAny (vQ h6 kself kword hns4 rfl rfl (by decide) ?_))
 have mr:∀ self,refuseLoop self "__setattr__" (.ref C :: bm)=pure ():=c6
 have I4:InstAt h4 e { cls:=.ref C,data:=.fields #[.ref (h2'.push (d9 e)).objs.size,.none,.none,.none,.bool false,.none] } C none:=⟨he4,rfl,rfl,trivial⟩
 have fw:=xo.b20
 have fp:=xo.b21
 rw [← o0] at fw ⊢
 rw [← lR] at fp
 refine xH (K:=c.K) X4 I4 xo.b17 (lm X4) mr xo.b14 fw ?_
 refine wo X4 hcd hdict he4 vw fun h5 es5 k5' t5 he5 hd5 f5 kp5=>⟨rfl,?_⟩
 have Dd:h4.get? h4.objs.size=none:=bo _ (Nat.le_refl _)
 have hns5:h5.Ns h.objs.size (fun x=>[(("self" : Str),Value.ref e),(("word" : Str),wv),(("place" : Str),pv)].reverse.lookup x):=⟨oL,esL,epL,kp5 _ _ ne2 (k04 _ _ ne2 hL0),hLr⟩
 have kb5:∀ b o,c.hb.get? b=some o→h5.get? b=some o:=fun b o q=>kp5 b o (fun z=>by rw [z,hE] at q; cases q) (kb4 b o q)
 have X5:c.K.In h5:=ok.k.keeps kb5
 refine ks_wpAt_execs_cons (wpAt_of_wpAny (vQ h6 kself kplace hns5 rfl rfl (by decide) ?_))
 have I5:InstAt h5 e ⟨.ref C,some h4.objs.size,.fields #[.ref (h2'.push (d9 e)).objs.size,.none,.none,.none,.bool false,.none],#[]⟩ C (some (dictOf es5 k5')):=⟨he5,rfl,rfl,hd5⟩
 rw [← lR]
 refine xH (K:=c.K) X5 I5 xo.b17 (lm X5) mr xo.b14 fp ?_
 refine wb X5 hcd hdict he5 hd5 f5 (lb rfl) vp fun h6' es6 k6 t6 he6 hd6 f6 kp6=>⟨rfl,?_⟩
 refine wpAt_of_wpAny (wpAny_execs_nil ?_)
 refine hq h6' h4.objs.size es6 k6 _ t6 (fun b o nb q=>?_) ?_ he6 hd6 f6
 ·have z4:=k04 b o nb (kp b o q)
  exact kp6 b o (fun z=>by rw [z,Dd] at z4; cases z4) (kp5 b o nb z4)
 ·cases z:h.get? h4.objs.size with
  | none=>rfl
  | some o=>
   by_cases z2:h4.objs.size=e
   ·rw [z2] at Dd; rw [he4] at Dd; cases Dd
   ·have:=k04 _ o z2 (kp _ o z); rw [Dd] at this; cases this
theorem mE (ok:Ok c) {P:PsI} (xo:ExC c.K D C fI) (hi:ExT c.K c.prog D fI P) {e ta:Addr} {wv pv:Value} {w p:AV} {n:Nat} {ρ:Nat→Addr} {Q:Value→Shared→Prop} (kb:∀ b o,c.hb.get? b=some o→h.get? b=some o) (hroom:A.depth<950) (vw:VR n ρ w wv) (vp:VR n ρ p pv)
  (hE:c.hb.get? e=none) (he:h.get? e=some { cls:=.ref C,data:=.fields #[.ref ta,.none,.none,.none,.bool false,.none] })
  (hq:∀ h' Dd es k ta' t',(∀ b o,b≠e→h.get? b=some o→h'.get? b=some o)→h.get? Dd=none→h'.get? e=some ⟨.ref C,some Dd,.fields #[.ref ta',.none,.none,.none,.bool false,.none],#[]⟩→h'.get? Dd=some (dictOf es k)→FsR n ρ [(d6,w),(fE,p)] es→Q .none ⟨h',g,d,t',os⟩) :
  wpAny (model c.prog c.w) A (call (.ref fI) [.ref e,wv,pv]) Q E ⟨h,g,d,t,os⟩:=by
 refine zEA (Option.map_eq_some_iff.mp hi.a13) fun ar h12 h13=>?_
 exact mF ok hi.a1 hi.a2 hi.a3 hi.a4 hi.a5 hi.a6 hi.a7 hi.a8 hi.a9 hi.a10 hi.a11 hi.a12 h12 h13 hi.a14 hi.a15 hi.a16 hi.a17 hi.a18 hi.a19 hi.a20 hi.a21 hi.a22 hi.a23 xo.b1 xo.b2 xo.b6 xo.b7 xo.b10 xo.b8 xo.b9 xo kb hroom vw vp hE he hq
end
end Mine.Internal
end
section
open PySem PySem.W PyProof.Rows
namespace Mine.Internal
section
variable {c:Cx} {ρ δ:Nat→Addr} {n:Nat} {e:Addr} {h0 h1 h:Heap} {v:Value} {F:Option Addr}
theorem gT (k:∀ b,bl h0 b→bl h1 b) {t:Addr} (d:h1.get? t=none):h0.get? t=none:=by
 cases q:h0.get? t with
 | none=>rfl
 | some o=>obtain ⟨o',z⟩:=k t ⟨o,q⟩; rw [d] at z; cases z
theorem Tba.back (x:Tba c ρ δ n h1 h e v) (k:∀ b,bl h0 b→bl h1 b):Tba c ρ δ n h0 h e v:=by
 refine zEEEEEA x fun o vs t oT ts a1 gC0=>?_
 refine zAAAAAA gC0 fun a2 a3 a4 a5 a6 a7 gC1=>?_
 refine zA gC1 fun a8 a9=>?_
 exact ⟨o,vs,t,oT,ts,a1,a2,a3,a4,a5,a6,a7,gT k a8,a9⟩
theorem Tbk.back (x:Tbk c ρ δ n h1 h e F) (k:∀ b,bl h0 b→bl h1 b):Tbk c ρ δ n h0 h e F:=by
 rcases x with x | x | ⟨L,q,x⟩
 ·exact .inl x
 ·exact .inr (.inl (x.back k))
 ·exact .inr (.inr ⟨L,q,x.back k⟩)
theorem Tbk.any (x:Tbk c ρ δ n h1 h e none):Tbk c ρ δ n h1 h e F:=by
 rcases x with x | x | ⟨L,q,x⟩
 ·exact .inl x
 ·exact .inr (.inl x)
 ·cases q
end
noncomputable def Kx (c:Cx) (s:Shared) (ρ δ:Nat→Addr) (T T':Hp) (r:Nat) (E:Value→Shared→Prop):Prop:=
 ∀ ρ' δ' h' t',Go c No ρ δ T.n s.heap ρ' δ' T'.n h'→HR c ρ' δ' T' T'.n h'→Tbk c ρ' δ' T'.n s.heap h' (ρ' r) none→E (.ref (ρ' r)) (Sh s h' t')
noncomputable def Kxs (c:Cx) (env:Env) (s:Shared) (ρ δ:Nat→Addr) (T T':Hp) (loc:Loc) (r:Nat) (E:Value→Shared→Prop):Prop:=
 ∀ ρ' δ' h' t',Go c (Own env) ρ δ T.n s.heap ρ' δ' T'.n h'→HR c ρ' δ' T' T'.n h'→FR c ρ' δ' T'.n loc env h'→Tbk c ρ' δ' T'.n s.heap h' (ρ' r) env.frame→E (.ref (ρ' r)) (Sh s h' t')
noncomputable def XEv (c:Cx) (e:PE) (d:Nat) (loc:Loc) (T:Hp) (r:Nat) (T':Hp):Prop:=
 ∀ (x:PySem.Expr) (env:Env) (A:Around) (s:Shared) (ρ δ:Nat→Addr) (Q E:Value→Shared→Prop),ME e env.kindOf x→At c d loc T env A s ρ δ→Kx c s ρ δ T T' r E→wpAny (model c.prog c.w) A (eval x env) Q E s
noncomputable def XCa (c:Cx) (a:Nat) (args:List AV) (d:Nat) (T:Hp) (r:Nat) (T':Hp):Prop:=
 ∀ (A:Around) (s:Shared) (ρ δ:Nat→Addr) (R:Result→Shared→Prop) (vals:List Value),VRs T.n ρ args vals→HR c ρ δ T T.n s.heap→fY d A→(∃ l,Fm c ρ δ T.n A s.heap l)→Kx c s ρ δ T T' r (fun e s'=>R (.error e) s')→codeAny (model c.prog c.w) A (.call (.ref a) ⟨vals,[]⟩) R s
noncomputable def XSt (c:Cx) (st:PS) (d:Nat) (loc:Loc) (T:Hp) (loc':Loc) (r:Nat) (T':Hp):Prop:=
 ∀ (x:Stmt) (env:Env) (A:Around) (s:Shared) (ρ δ:Nat→Addr) (Q:Flow→Shared→Prop) (E:Value→Shared→Prop),MS st env.kindOf x→At c d loc T env A s ρ δ→Kxs c env s ρ δ T T' loc' r E→wpAny (model c.prog c.w) A (exec x env) Q E s
noncomputable def XEx (c:Cx) (b:PSs) (d:Nat) (loc:Loc) (T:Hp) (loc':Loc) (r:Nat) (T':Hp):Prop:=
 ∀ (x:List Stmt) (env:Env) (A:Around) (s:Shared) (ρ δ:Nat→Addr) (Q:Flow→Shared→Prop) (E:Value→Shared→Prop),MSs b env.kindOf x→At c d loc T env A s ρ δ→Kxs c env s ρ δ T T' loc' r E→wpAny (model c.prog c.w) A (execs x env) Q E s
section
variable {c:Cx} {d:Nat} {loc loc' loc1:Loc} {T T1 T2 T3:Hp} {env:Env} {A:Around} {s:Shared} {ρ δ ρ' δ':Nat→Addr} {h':Heap} {t' r:Nat} {E:Value→Shared→Prop}
theorem Kx.go (k:Kx c s ρ δ T T2 r E) (g:Go c No ρ δ T.n s.heap ρ' δ' T1.n h'):Kx c (Sh s h' t') ρ' δ' T1 T2 r E:=fun ρ2 δ2 h2 t2 g2 hr2 tk=>k ρ2 δ2 h2 t2 (g.trans g2) hr2 (tk.back g.live)
theorem Kxs.go (k:Kxs c env s ρ δ T T2 loc r E) (g:Go c (Own env) ρ δ T.n s.heap ρ' δ' T1.n h'):Kxs c env (Sh s h' t') ρ' δ' T1 T2 loc r E:=fun ρ2 δ2 h2 t2 g2 hr2 fr tk=>k ρ2 δ2 h2 t2 (g.trans g2) hr2 fr (tk.back g.live)
theorem Kxs.ev (k:Kxs c env s ρ δ T T2 loc r E) (a:At c d loc T env A s ρ δ):Kx c s ρ δ T T2 r E:=fun ρ2 δ2 h2 t2 g2 hr2 tk=>k ρ2 δ2 h2 t2 g2.any hr2 (a.fr.go g2) tk.any
end
section
variable {c:Cx} {d:Nat} {loc loc' loc1 loc2:Loc} {T T1 T2 T3:Hp} {v:AV} {vs:List AV} {e o:PE} {l:PEs} {r:Nat} {st:PS} {b b2:PSs}
theorem tQ (ok:Ok c) {m q C f:Nat} {fs:List (Nat × AV)} {ci:CI} (e1:Ev c o d loc T (.ref q) T1) (ho:T1.get q=some (.inst C fs)) (hc:lk c.G.cls C=some ci) (hm:lk ci.meths m=some f) (hnf:lk fs m=none) (e2:Evs c l d loc T1 vs T2) (e3:XCa c f (.ref q :: vs) d T2 r T3):XEv c (.meth o m l) d loc T r T3:=by
 intro _ env A s ρ δ Q E gX0 a' ct
 refine zEEEEAA gX0 fun o' l' ap p gR0 mo gC0=>?_
 refine zAAA gC0 fun ns ms hl hlen=>?_
 clear gX0
 subst gR0
 have P:=MEs.plain (env:=env) (pos:=p) ms
 have CO:=ok.cls C ci hc
 refine zAAA (CO.meths _ _ hm) fun m1 m2 m3 m4=>?_
 refine kF ns ms hl hlen (e1 _ env A s ρ δ _ E mo a' fun ρ1 δ1 h' t1 va g1 hr1 vr1 pl=>?_)
 rw [vr1.2]
 refine zEEA (eR (hr1.obj q _ ho).2) fun es k I F=>?_
 have sh:shadowIn (some (dictOf es k)) (nmS m)=some false:=by
  unfold shadowIn
  dsimp only
  rw [(eU (k:=k) (a:=m) F).2 hnf]; rfl
 refine method_fn (s:=Sh s h' t1) (hr1.k ok) I CO.ga CO.hk m1 m2 sh ?_
 refine callWith_of (by rw [P.1]; rfl) (keeps_K m3) (dS ms (e2 _ env A (Sh s h' t1) ρ1 δ1 _ E p ms (a'.go g1 hr1) fun ρ2 δ2 h2 t2 vals g2 hr2 vr2=>⟨hr2.k ok,wpAny_call ?_⟩))
 exact e3 A (Sh s h2 t2) ρ2 δ2 _ _ ⟨g2.vr (a:=.ref q) ⟨vr1.1,rfl⟩,vr2⟩ hr2 a'.ro (a'.fl (g1.trans g2)) (Kx.go (t':=t2) ct (g1.trans g2))
theorem ut (e1:XEv c e d loc T r T1):XSt c (.expr e) d loc T loc r T1:=by
 intro _ env A s ρ δ Q E gX0 a ct
 refine zEEAA gX0 fun e' p gR0 me nc=>?_
 clear gX0
 subst gR0
 exact wpAny_Expr_any (e1 _ env A s ρ δ _ E me a (ct.ev a)) (by unfold interactive; rw [a.fr.kind]; rfl) (eo nc)
theorem xw {t:PE} (w:Bool) (e1:Tr c t d loc T w T1) (e2:XEx c (cond w b b2) d loc T1 loc' r T2):XSt c (.ite t b b2) d loc T loc' r T2:=by
 intro _ env A s ρ δ Q E gX0 a ct
 refine zEEEEAA gX0 fun t' b' b2' p gR0 me gC0=>?_
 refine zA gC0 fun m1 m2=>?_
 clear gX0
 subst gR0
 refine wpAny_If (e1 _ env A s ρ δ _ E me a fun ρ1 δ1 h' t1 g1 hr1=>?_)
 cases w with
 | true=>exact e2 _ env A _ ρ1 δ1 Q E m1 (a.go g1 hr1) (Kxs.go (t':=t1) ct g1.any)
 | false=>exact e2 _ env A _ ρ1 δ1 Q E m2 (a.go g1 hr1) (Kxs.go (t':=t1) ct g1.any)
theorem th (e1:XSt c st d loc T loc' r T1):XEx c (.cons st b) d loc T loc' r T1:=by
 intro _ env A s ρ δ Q E gX0 a ct
 refine zEEAA gX0 fun x l gR0 m1 m2=>?_
 clear gX0
 subst gR0
 exact wpAny_execs_cons (e1 _ env A s ρ δ _ E m1 a ct)
theorem tY (e1:St c st d loc T (.nxt loc1) T1) (e2:XEx c b d loc1 T1 loc' r T2):XEx c (.cons st b) d loc T loc' r T2:=by
 intro _ env A s ρ δ Q E gX0 a ct
 refine zEEAA gX0 fun x l gR0 m1 m2=>?_
 clear gX0
 subst gR0
 exact wpAny_execs_cons (e1 _ env A s ρ δ _ E m1 a fun ρ1 δ1 h' t1 g rr fr=>e2 _ env A (Sh s h' t1) ρ1 δ1 Q E m2 ⟨fr,rr,a.ro,a.fgo g⟩ (Kxs.go ct g))
end
section
variable {c:Cx} {d:Nat} {loc loc':Loc} {T T1 T2:Hp} {args:List AV} {r C:Nat} {fs:List (Nat × AV)}
theorem wu (ok:Ok c) {a:Nat} {fi:FI} {l:Loc} (hfi:lk c.G.fns a=some fi) (hl:binds fi.params args (fi.dfl.drop (args.length - (fi.params.length - fi.dfl.length))) (fi.params.length - fi.dfl.length)=some l) (h1r:1≤r) (hget:T1.get r=some (.exc C fs)) (e:XEx c fi.body d l T loc' r T1):XCa c a args (d+1) T r T1:=by
 intro A s ρ δ R vals va hr ro fm ct
 refine vJ ok hfi hl va hr ro fm fun body env hh tk ms at' keep off ⟨L,hL⟩=>e body env _ (Sh s hh tk) ρ δ _ _ ms at' ?_
 have g0:∀ {X:Addr→Prop},Go c X ρ δ T.n s.heap ρ δ T.n hh:=Go.of_keeps keep
 have lv:∀ b,bl s.heap b→bl hh b:=fun b ⟨o,q⟩=>⟨o,keep b o q⟩
 intro ρ' δ' h'' t' g rr ff tb
 refine zEEA at'.fm fun e0 fl fm' q0=>?_
 have lt:r<T1.n:=(rr.obj r _ hget).1
 rw [hL] at tb
 unfold leaving
 refine WB (vE (h0:=hh) (s:=Sh s h'' t') rr (fm'.go g) q0 hL g.live (fun t lo z=>(lo.2.2 r h1r lt).1 z.symm) tb fun h3 n3 tb3=>?_)
 have r3:=n3.hr rr h1r hget
 refine oQ (h0:=hh) (T:=T1) (s:=Sh s h3 t') (F:=none) tb3 fun h4 n4 tb4=>?_
 have r4:=n4.hr r3 h1r hget
 have nn:=n3.trans n4
 exact ct ρ' δ' h4 t' (Go.late ((g0.trans g).weak off) ((nn.go h1r lt).weak fun b _ z=>gT lv z)) r4 (.inr (.inl (tb4.back lv)))
end
section
variable {M:Model} {A:Around} {E:Value→Shared→Prop} {env:Env} {h:Heap} {g:Array GenState} {d:Drawn} {t:Nat} {os:OsState}
variable {nm q:Str} {C N:Addr} {bs bm:List Value} {hdct:Bool} {sn:List Str} {sub:List Value} {ab:Bool} {col:Option Bool} {dd:Option Addr} {k0 k1 k2 k3 k5:Option Value} {newId:String}
theorem rG {e Dd ta:Addr} {Q:Flow→Shared→Prop} (hC:h.get? C=some (excClassObj nm q C N bs bm hdct sn sub ab col dd k0 k1 k2 k3 k5 newId)) (hB:bm.contains (.type "BaseException")=true) (hh:A.handled=none)
  (he:h.get? e=some ⟨.ref C,some Dd,.fields #[.ref ta,.none,.none,.none,.bool false,.none],#[]⟩) (hE:E (.ref e) ⟨h,g,d,t,os⟩) :
  wpAny M A (raiseStmt env (some (pure (.ref e))) none) Q E ⟨h,g,d,t,os⟩:=by
 have hcB:(Value.ref C :: bm).contains (.type "BaseException")=true:=by rw [List.contains_cons,hB,Bool.or_true]
 unfold raiseStmt
 repeat (first | with_reducible refine wpAny_loadPart_at he ?_ | with_reducible refine wpAny_loadPart_at hC ?_ | (with_reducible refine wpAny_isSubtype_exc hC ?_; rw [hcB]) | wp_step)
 exact wpAny_raiseNew_none hh hE
end
section
variable {c:Cx} {d:Nat} {loc:Loc} {T T1:Hp} {l:PEs} {w p:AV} {C D x:Nat}
theorem qE (ok:Ok c) (xo:jG c D C) (hx:lk c.G.glb x=some (.obj C)) (e1:Evs c l d loc T [w,p] T1):XSt c (.raise (.call (.glb x) l)) d loc T loc T1.n (aq T1 (.exc C [(d6,w),(fE,p)])):=by
 intro _ env A s ρ δ Q E gX0 a' ct
 refine gp fun gP gH=>?_
 refine zEEA gX0 fun e' ps gR0 gN1=>?_
 clear gX0
 subst gR0
 obtain ⟨f',l',cp,rfl,⟨y,np,rfl⟩,mf,ms⟩:=gN1
 have P:=MEs.plain (env:=env) (pos:=cp) ms
 refine zEEA xo fun fI PP xc xt=>?_
 apply gH;clear gH
 rw [arm_exec_Raise]
 refine WB (wpAny_standAt ?_)
 show wpAny _ _ (raiseStmt env (some (eval (.Call (.Name y np) l' [] cp) env >>= fun v=>standAt ps >>= fun _=>pure v)) none) _ _ _
 have key:∀ {Q':Value→Shared→Prop},(∀ v s',wpAny (model c.prog c.w) A (raiseStmt env (some (pure v)) none) Q E s'→Q' v s')→wpAny (model c.prog c.w) A (eval (.Call (.Name y np) l' [] cp) env >>= fun v=>standAt ps >>= fun _=>pure v) Q' E s:=by
  intro Q' hQ
  refine WB (wpAny_Call_NameR (dk ok hx _ env A s ρ δ _ E mf a' fun ρ1 δ1 h' t1 fv g1 hr1 vr1=>?_))
  rw [vr1]
  refine callWith_of (by rw [P.1]; rfl) (keeps_K xc.b23) (dS ms (e1 _ env A (Sh s h' t1) ρ1 δ1 _ E cp ms (a'.go g1 hr1) fun ρ2 δ2 hh t2 vals g2 hr2 va=>⟨hr2.k ok,?_⟩))
  have X:=hr2.k ok
  refine zEEAA (vr2 va) fun wv pv gR0 vw vp=>?_
  subst gR0
  refine wj (X _ _ xc.b1) xc.b2 xc.b3 xc.b4 (looks_findIn X xc.b15) (looks_typeIn X xc.b16) (fun h3 e3 md=>?_) (by rw [sizeLine_eq]; exact lb rfl)
  refine zEAA md.there fun ta m1 m2 m3=>?_
  have kb3:∀ b o,c.hb.get? b=some o→h3.get? b=some o:=fun b o z=>md.keeps b o (hr2.base b o z)
  refine mE ok xc xt kb3 (by have:=a'.ro.1; rw [depth_under_make]; omega) vw vp (hr2.dead (s:=Sh s hh t2) md.new) m1 fun h4 Dd es k ta' t4 k4 dD e4 d4 f4=>⟨rfl,?_⟩
  have kp:∀ b o,hh.get? b=some o→h4.get? b=some o:=fun b o z=>k4 b o (fun y=>by rw [y,md.new] at z; cases z) (md.keeps b o z)
  have dD':hh.get? Dd=none:=gT (fun b ⟨o,z⟩=>⟨o,md.keeps b o z⟩) dD
  refine zA (hr2.grow (X:=No) (ao:=.exc C [(d6,w),(fE,p)]) (a:=e3) (d:=Dd) (ce T1 _) md.new dD' ⟨_,e4⟩ ⟨_,d4⟩ kp ⟨⟨_,_,e4,rfl,rfl,rfl⟩,es,k,d4,f4.up (Nat.le_succ _) fun i z=>bx z⟩) fun r1 gg=>?_
  refine WB (wpAny_standAt (WQ (hQ _ _ ?_)))
  have X4:c.K.In h4:=X.keeps kp
  have ee:ext ρ2 T1.n e3 T1.n=e3:=bD ..
  refine rG (X4 _ _ xc.b1) xc.b5 a'.ro.2.2 e4 ?_
  have:=ct (ext ρ2 T1.n e3) (ext δ2 T1.n Dd) h4 t4 (g1.trans (g2.trans gg)).any r1 (a'.fr.go (g1.trans (g2.trans gg))) (.inl ⟨_,_,by rw [ee]; exact e4,rfl,rfl⟩)
  rwa [ee] at this
 unfold raiseStmt
 refine WB (key fun v s' z=>?_)
 unfold raiseStmt at z
 exact z
end
structure Xs (c:Cx) (env:Env) (h0:Heap) (ρ0 δ0:Nat→Addr) (n0:Nat) (loc:Loc) (r C:Nat) (fs:List (Nat × AV)) (T:Hp) (ρ δ:Nat→Addr) (h:Heap):Prop where
 go:Go c (Own env) ρ0 δ0 n0 h0 ρ δ T.n h
 hr:HR c ρ δ T T.n h
 fr:FR c ρ δ T.n loc env h
 lv:∀ a,Own env a→bl h0 a
 get:T.get r=some (.exc C fs)
 r1:1≤r
section
variable {c:Cx} {env:Env} {h0 h h':Heap} {ρ0 δ0 ρ δ:Nat→Addr} {n0 n:Nat} {loc loc':Loc} {r C:Nat} {fs:List (Nat × AV)} {T:Hp}
theorem Xs.lt (x:Xs c env h0 ρ0 δ0 n0 loc r C fs T ρ δ h):r<T.n:=(x.hr.obj r _ x.get).1
theorem Xs.nt (x:Xs c env h0 ρ0 δ0 n0 loc r C fs T ρ δ h) (n:Nt c ρ δ T.n (ρ r) h0 h h'):Xs c env h0 ρ0 δ0 n0 loc r C fs T ρ δ h':=
 ⟨x.go.late (n.go x.r1 x.lt),n.hr x.hr x.r1 x.get,x.fr.goX (n.go x.r1 x.lt) (fun a o z=>by obtain ⟨ob,q⟩:=x.lv a o; rw [q] at z; cases z),x.lv,x.get,x.r1⟩
theorem FR.own_live (f:FR c ρ δ n loc env h):∀ a,Own env a→bl h a:=by
 rintro a (rfl | ⟨x,e⟩)
 ·obtain ⟨m,q,_⟩:=f.ns; exact da q
 ·exact (f.offC x a e).2.2
theorem FR.re {m':Str→Option Value} (f:FR c ρ δ n loc env h) (hn:h'.Ns env.locals m') (hs:Heap.SameBut env.locals h h') (hl:∀ y w,lk loc' y=some w→env.kindOf (nmS y)=some .local→∃ val,m' (nmS y)=some val∧VR n ρ w val) (hc:∀ y w,lk loc' y=some w→env.kindOf (nmS y)≠some .local→lk loc y=some w):FR c ρ δ n loc' env h':=by
 refine ⟨f.kind,f.glo,f.bui,f.offL,f.hbL,fun y a e=>?_,f.hbC,f.inj,⟨m',hn,hl⟩,fun y w e k=>?_,fun y k=>?_⟩
 ·have:=f.offC y a e
  exact ⟨this.1,this.2.1,let ⟨o,e⟩:=this.2.2; ⟨o,hs.extBut _ o this.2.1 e⟩⟩
 ·obtain ⟨a,u,h3,h4,h5⟩:=f.cel y w (hc y w e (by rcases k with k | k <;> (rw [k]; decide))) k
  exact ⟨a,u,h3,h4.sameBut hs (f.offC _ a h3).2.1,h5⟩
 ·obtain ⟨a,v,q,i⟩:=f.celE y k
  exact ⟨a,v,q,i.sameBut hs (f.offC _ a q).2.1⟩
theorem Tba.same {e L:Addr} {v:Value} (tb:Tba c ρ δ n h0 h e v) (hs:Heap.SameBut L h h') (hL:Dl h L):Tba c ρ δ n h0 h' e v:=by
 refine zEEEEEA tb fun o vs t oT ts a1 gC0=>?_
 refine zAAAAAA gC0 fun a2 a3 a4 a5 a6 a7 a8=>?_
 have ne:∀ {b:Addr} {ob:Obj} {ws:Array Value},h.get? b=some ob→ob.data=.fields ws→b≠L:=fun q1 q2 z=>by
  refine zEEEA hL fun o' es k q3 q4=>?_
  rw [← z,q1] at q3; cases q3; rw [q2] at q4; cases q4
 exact ⟨o,vs,t,oT,ts,(hs.2 e (ne a1 a2)).trans a1,a2,a3,a4,(hs.2 t (ne a5 a6)).trans a5,a6,a7,a8⟩
end
section
variable {c:Cx} {env:Env} {A:Around} {s:Shared} {E:Value→Shared→Prop} {h0:Heap} {ρ0 δ0 ρ δ:Nat→Addr} {n0 n:Nat} {loc loc':Loc} {r C:Nat} {fs:List (Nat × AV)} {T:Hp} {Q:Unit→Shared→Prop} {v w:Value}
theorem Xs.note {M:Model} (x:Xs c env h0 ρ0 δ0 n0 loc r C fs T ρ δ s.heap) (fm:∃ e l,Fm c ρ δ T.n A s.heap (e :: l)∧e.frame=env.frame) (tk:Tbk c ρ δ T.n h0 s.heap (ρ r) env.frame)
  (k:∀ h' L,env.frame=some L→Xs c env h0 ρ0 δ0 n0 loc r C fs T ρ δ h'→Tba c ρ δ T.n h0 h' (ρ r) (rawInt L)→Q () { s with heap:=h' }):wpAny M A (noteFrame (.ref (ρ r)) env) Q E s:=by
 refine zEEA fm fun e l f q=>?_
 refine zAEA (f.ok e (.head _)) fun _ L hL _=>?_
 have hf:env.frame=some L:=q.symm.trans hL
 rw [hf] at tk
 exact vE x.hr f q hf x.go.live (fun t lo z=>(lo.2.2 r x.r1 x.lt).1 z.symm) tk fun h' nt tb=>k h' L hf (x.nt nt) tb
theorem Xs.fly {M:Model} {F:Option Addr} (x:Xs c env h0 ρ0 δ0 n0 loc r C fs T ρ δ s.heap) (tb:Tba c ρ δ T.n h0 s.heap (ρ r) v)
  (k:∀ h',Xs c env h0 ρ0 δ0 n0 loc r C fs T ρ δ h'→Tba c ρ δ T.n h0 h' (ρ r) (F.elim .none fun f=>rawInt f)→Q () { s with heap:=h' }):wpAny M A (setFlight (.ref (ρ r)) F) Q E s:=
 oQ (T:=T) tb fun h' nt tb=>k h' (x.nt nt) tb
theorem Xs.put {y:Nat} {av:AV} {val:Value} (x:Xs c env h0 ρ0 δ0 n0 loc r C fs T ρ δ s.heap) (tb:Tba c ρ δ T.n h0 s.heap (ρ r) w) (hk:env.kindOf (nmS y)=some .local) (vr:VR T.n ρ av val)
  (k:∀ h' t',Xs c env h0 ρ0 δ0 n0 (pt loc y av) r C fs T ρ δ h'→Tba c ρ δ T.n h0 h' (ρ r) w→Q () (Sh s h' t')):wpAny (model c.prog c.w) A (storeName env (nmS y) val) Q E s:=by
 refine zEA x.fr.ns fun m h1 h2=>?_
 refine wpAny_storeName_local hk h1 (fun h' hn hs=>k h' _ ⟨x.go.trans (Go.of_ext hs.extBut (fun _=>da hn) (fun _=>mL hn) (.inl rfl)),x.hr.of_ext hs.extBut x.fr.offL x.fr.hbL,x.fr.re hn hs ?_ ?_,x.lv,x.get,x.r1⟩ (tb.same hs (mL h1))) (by rw [x.fr.kind]; rfl)
 ·intro z u e q
  rw [bc] at e
  by_cases hy:z=y
  ·subst hy; rw [if_pos rfl] at e; cases e; exact ⟨val,if_pos rfl,vr⟩
  ·rw [if_neg hy] at e
   refine zEA (h2 z _ e q) fun u h3 h4=>?_
   exact ⟨u,by rw [if_neg fun z=>hy (db z)]; exact h3,h4⟩
 ·intro z u e q
  rw [bc] at e
  by_cases hy:z=y
  ·subst hy; exact absurd hk q
  ·rw [if_neg hy] at e; exact e
theorem ry {y:Nat} {pos:Pos} (fr:FR c ρ δ n loc env s.heap) (hr:HR c ρ δ T n s.heap) (hk:env.kindOf (nmS y)=some .local)
  (k:∀ h' t',Heap.SameBut env.locals s.heap h'→Go c (Own env) ρ δ n s.heap ρ δ n h'→HR c ρ δ T n h'→FR c ρ δ n (rm [y] loc) env h'→Q () (Sh s h' t')):wpAny (model c.prog c.w) A (do bindName env (nmS y) .none; unbindBehindTheSuite env (nmS y) pos) Q E s:=by
 refine zEA fr.ns fun m h1 h2=>?_
 refine wpAny_nameGoes_keeps hk h1 (by rw [fr.kind]; rfl) fun h' v hn hs=>k h' _ hs (Go.of_ext hs.extBut (fun _=>da hn) (fun _=>mL hn) (.inl rfl)) (hr.of_ext hs.extBut fr.offL fr.hbL) (fr.re hn hs ?_ ?_)
 ·intro z u e q
  refine zA (oV e) fun e1 e2=>?_
  have hy:z≠y:=fun q=>e2 (q▸.head _)
  refine zEA (h2 z _ e1 q) fun u h3 h4=>?_
  exact ⟨u,by rw [if_neg fun z=>hy (db z)]; exact h3,h4⟩
 ·intro z u e q
  exact (oV e).1
end
section
variable {c:Cx} {env:Env} {A:Around} {s:Shared} {Q E:Value→Shared→Prop} {ρ δ:Nat→Addr} {n:Nat} {loc:Loc} {T:Hp} {v:AV}
theorem qT {x:Nat} {p:Pos} (fr:FR c ρ δ n loc env s.heap) (hl:lk loc x=some v) (hk:own? (env.kindOf (nmS x))=true) (hd:fz (nmS x)=false) (k:∀ val,VR n ρ v val→Q val s):wpAny (model c.prog c.w) A (eval (.Name (nmS x) p) env) Q E s:=by
 refine wpAny_Name ?_ (hF hd).1
 rcases qV hk with q | q | q
 ·obtain ⟨m,h1,h2⟩:=fr.ns
  refine zEA (h2 x v hl q) fun val h3 h4=>?_
  exact wpAny_loadName_local fr.kind q h1 h3 (k _ h4)
 ·obtain ⟨b,val,h1,h2,h3⟩:=fr.cel x v hl (.inl q)
  exact wpAny_loadName_cell fr.kind q h1 h2 (k _ h3)
 ·obtain ⟨b,val,h1,h2,h3⟩:=fr.cel x v hl (.inr q)
  exact wpAny_loadName_free fr.kind q h1 h2 (k _ h3) (hF hd).2
theorem rQ (ok:Ok c) {x:Nat} {p:Pos} (fr:FR c ρ δ n loc env s.heap) (hr:HR c ρ δ T n s.heap) (hl:lk c.G.glb x=some v) (hk:env.kindOf (nmS x)=some .globalImplicit) (hd:fz (nmS x)=false) (k:∀ val,VR n ρ v val→Q val s):wpAny (model c.prog c.w) A (eval (.Name (nmS x) p) env) Q E s:=by
 refine zEA (ok.glb x v hl) fun val vr hg=>?_
 refine zEEAA ok.nss fun mg mb h1 h2 h3=>?_
 have q:Q val s:=k _ (vr.up (Nat.zero_le _) fun i z=>absurd z (Nat.not_lt_zero i))
 refine Calls.Name_function_global fr.kind hk ?_ (hF hd).1
 rcases hg with hg | ⟨hg,hb,hn⟩
 ·exact Calls.loadGlobal_global (by rw [fr.glo]; exact h1.keeps hr.base) (mg_of ok.k h1 hg) q
 ·exact Calls.loadGlobal_builtin (by rw [fr.glo]; exact h1.keeps hr.base) (mg_none_of ok.k h1 hg) (by rw [fr.bui]; exact h2.keeps hr.base) ((h3 _ hn).trans hb) q
end
theorem oM:Slot "ValueError" "__getattribute__" "BaseException.__getattribute__" := .of (owner:="BaseException") (n:="__getattribute__") (by rw [typeLookup_type,builtinLookup_eq_fast]; kernel_rfl) (by decide +kernel) (by decide +kernel) (by decide +kernel)
 (by first | exact .inl (by decide +kernel) | exact .inr (by decide +kernel)) (by rw [isSubtype_type]; kernel_rfl)
theorem yf {prog:Program} {w:World} {A:Around} {Q E:Value→Shared→Prop} {s:Shared} {K:Frag} {x C:Addr} {ox:Obj} {od:Option Obj} {name:Str} {expr:Bool} {v:Value} (X:K.In s.heap) (I:InstAt s.heap x ox C od) (hga:findIn K (.ref C) "__getattribute__" = some (some (.builtin "BaseException.__getattribute__"))) (hgh:findIn K (.ref C) "__getattr__" = some none) (hb:mroIn K C (.type "BaseException")=some true)
  (hf:findObj K C od name=some (.value v)) (hh:handedIn v=true) (h:Q v { s with toks:=s.toks+1 }):wpAny (model prog w) A (getAttr (.ref x) name expr) Q E s:=by
 refine gp fun gP gH=>?_
 obtain ⟨hp,g,d,t,os⟩:=s
 apply gH;clear gH
 have L0:=I.type (M:=model prog w)
 have L1:=looks_findIn (M:=model prog w) X hga
 have L2:=looks_findIn (M:=model prog w) X hgh
 have L3:=looks_find (M:=model prog w) X I hf
 have sub:Looks (model prog w) hp (isInstance (.ref x) (.type "BaseException")) true:=L0.andThen (looks_mroIn X hb)
 have hx2:(Value.builtin "BaseException.__getattribute__" == Value.builtin "object.__getattribute__")=false:=by decide +kernel
 have hx1:(onTheHeap (Value.ref C) && Value.builtin "BaseException.__getattribute__" == Value.builtin "object.__getattribute__")=false:=by rw [hx2]; rfl
 have hx0:(expr && onTheHeap (Value.builtin "BaseException.__getattribute__"))=false:=by cases expr <;> rfl
 have hk:builtinKind "BaseException.__getattribute__" = some .slot:=by decide +kernel
 have hsplit:splitId "BaseException.__getattribute__" = some ("BaseException","__getattribute__"):=by decide +kernel
 unfold getAttr getAttrBy
 refine WB (wpAny_mkText (WH (WB (L0.at (WB (L1.at ?_))))))
 dsimp only
 rw [if_neg (by rw [hx1]; exact Bool.false_ne_true)]
 unfold getAttrByItsOwn
 refine WB ?_
 show wpAny _ _ (typeLookup (.ref C) "__getattr__") _ _ _
 refine L2.at ?_
 refine WB (wpAny_attempt (WH ?_))
 unfold callGetattribute
 rw [if_neg (by rw [hx0]; exact Bool.false_ne_true)]
 unfold boundAndCalled
 refine WB (wpAny_of_eq (oM.bind _) ?_)
 refine wpAny_call (codeAny_call_builtin oM.plain F.entry_bexc_ga (@check_slot (model prog w) _ _ ⟨hp,g,d,t+1,os⟩ "BaseException.__getattribute__" "BaseException" "__getattribute__" (.ref x) [.str name t] [] _ hk hsplit sub (F.args_bexc_ga _ _) ?_))
 unfold Builtin.«object.__getattribute__»
 refine WB (WQ ?_)
 refine WB (WQ ?_)
 refine WB (L0.at (WB (L3.at ?_)))
 refine WQ ?_
 show wpAny _ _ (handedOut v) _ _ _
 rw [handedOut_of hh]; exact WQ h
section
variable {c:Cx} {env:Env} {A:Around} {s:Shared} {E:Value→Shared→Prop} {h0:Heap} {ρ0 δ0 ρ δ:Nat→Addr} {n0 n:Nat} {loc loc':Loc} {r C D:Nat} {fs:List (Nat × AV)} {T:Hp} {v:Value}
theorem sV (ok:Ok c) (xo:jG c D C) {Q:Flow→Shared→Prop} {cl y:Nat} {np hp:Pos} {b₀:Stmt} {suite:List Stmt} (hcl:lk c.G.glb cl=some (.obj D)) (kcl:env.kindOf (nmS cl)=some .globalImplicit) (dcl:fz (nmS cl)=false) (ky:env.kindOf (nmS y)=some .local) (x:Xs c env h0 ρ0 δ0 n0 loc r C fs T ρ δ s.heap) (tb:Tba c ρ δ T.n h0 s.heap (ρ r) v)
  (k:∀ h' t',Xs c env h0 ρ0 δ0 n0 (pt loc y (.ref r)) r C fs T ρ δ h'→Tba c ρ δ T.n h0 h' (ρ r) .none →
   wpAny (model c.prog c.w) (A.mark (some (.ref (ρ r)))) (execs (b₀ :: suite) env) (fun f s₄=>wpAny (model c.prog c.w) A (do bindName env (nmS y) .none; unbindBehindTheSuite env (nmS y) hp) (fun _ s₅=>Q f s₅) E s₄)
    (AsSuiteRaised (model c.prog c.w) (A.mark (some (.ref (ρ r)))) env (nmS y) hp (notedBy (model c.prog c.w) (A.mark (some (.ref (ρ r)))) env (cameBackBy (model c.prog c.w) A env E))) (Sh s h' t')) :
  wpAny (model c.prog c.w) A (handleBy (.ref (ρ r)) env [.ExceptHandler (some (.Name (nmS cl) np)) (some (nmS y)) (b₀ :: suite) hp]) Q E s:=by
 refine wpAny_handleBy_cons (codeAny_handlers_test (rQ ok x.fr x.hr hcl kcl dcl fun val vr=>?_)) (by intro q; cases q)
 cases vr
 have X:=x.hr.k ok
 refine gp fun gP gH=>?_
 refine zAAEEA (x.hr.obj r _ x.get) fun _ gN0 es kk q5 q6=>?_
 obtain ⟨oe,ws,q1,q2,q3,q4⟩:=gN0
 have LT:Looks (model c.prog c.w) s.heap (typeOf (.ref (ρ r))) (.ref C):=q2▸(Looks.ld q1).andThen .now
 refine zEEA xo fun fI PP xc xt=>?_
 apply gH;clear gH
 refine (exm_one X LT xc.b24).here ?_
 show codeAny _ (A.mark _) (.handlers _ _ _) _ s
 refine codeAny_handlers_suite_as ?_
 refine x.fly tb (F:=none) fun h1 x1 tb1=>?_
 exact Xs.put (av:=.ref r) (s:={ s with heap:=h1 }) x1 tb1 ky ⟨x1.lt,rfl⟩ fun h2 t2 x2 tb2=>k h2 t2 x2 tb2
end
section
variable {c:Cx} {d:Nat} {loc loc' loc1:Loc} {T T1 T2:Hp} {e it:PE} {r C D:Nat} {fs:List (Nat × AV)} {b bb:PSs} {xs:List Nat} {ik:IK} {x w:AV}
theorem s6 (ok:Ok c) (xo:jG c D C) {cl y z:Nat} (hcl:lk c.G.glb cl=some (.obj D)) (e1:XEx c b d loc T loc1 r T1) (h1r:1≤r) (hget:T1.get r=some (.exc C fs)) (hw:lk fs d6=some w):St c (.try b cl y (.cons (.asg z (.attr (.loc y) d6)) .nil)) d loc T (.nxt (rm [y] (pt (pt loc1 y (.ref r)) z w))) T1:=by
 intro _ env A s ρ δ Q E gX0 a ct
 refine gp fun gP gH=>?_
 refine zEEEEEA gX0 fun b' np h' hp p gR0 gC0=>?_
 refine zAAAA gC0 fun mb mh kcl dcl ky=>?_
 clear gX0
 subst gR0
 refine zEEAA mh fun x0 xl gR0 gN1 gR2=>?_
 subst gR0
 obtain ⟨xnp,xe,xp,rfl,⟨o',ap,rfl,⟨yp,rfl,ky2,kd2⟩,ns⟩,nc,mk⟩:=gN1
 apply gH;clear gH
 subst gR2
 refine wpAny_Try_except (e1 _ env A s ρ δ _ _ mb a fun ρ1 δ1 h1 t1 g1 hr1 fr1 tk1=>?_)
 have x1:Xs c env s.heap ρ δ T.n loc1 r C fs T1 ρ1 δ1 h1:=⟨g1,hr1,fr1,a.fr.own_live,hget,h1r⟩
 refine Xs.note (s:=Sh s h1 t1) x1 (a.fgo g1) tk1 fun h2 L hL x2 tb2=>?_
 refine Xs.fly (s:=Sh s h2 t1) x2 tb2 (F:=none) fun h3 x3 tb3=>?_
 refine sV ok xo (s:=Sh s h3 t1) hcl kcl dcl ky x3 tb3 fun h4 t4 x4 tb4=>?_
 refine gp fun gP gH=>?_
 refine zAAEEA (x4.hr.obj r _ x4.get) fun _ gN0 es kk q5 q6=>?_
 obtain ⟨oe,ws,q1,q2,q3,q4⟩:=gN0
 refine zEA ((eU (k:=kk) (a:=d6) q6).1 w hw) fun val hl vr=>?_
 refine zEEA (id xo) fun fI PP xc xt=>?_
 apply gH;clear gH
 have hcd:=xc.b8
 have hdict:=xc.b9
 refine wpAny_execs_cons (wpAny_Assign_Name (fW ns (qT (s:=Sh s h4 t4) x4.fr (by rw [bc,if_pos rfl]) ky2 kd2 fun va v1=>?_)) (nc.elim eo fun h=>iR h))
 rw [v1.2]
 have fw:=xc.b20
 rw [← o0] at fw
 refine yf (v:=val) (x4.hr.k ok) (⟨q1,q2,by unfold notCls; rw [q4],by rw [q3]; exact q5⟩:InstAt h4 (ρ1 r) oe C (some (dictOf es kk))) xc.b18 xc.b19 xc.b25 ?_ vr.handed ?_
 ·exact ng hcd fw hdict hl
 ·refine eS (s:=Sh s h4 (t4+1)) x4.fr x4.hr vr mk fun h5 t5 g5 r5 f5=>?_
  refine wpAny_execs_nil ?_
  exact ry (s:=Sh s h5 t5) f5 r5 ky fun h6 t6 _ g6 r6 f6=>ct ρ1 δ1 h6 t6 (x4.go.trans (g5.trans g6)) r6 f6
end
theorem dW {l:Loc} {x y:Nat} {w:AV} (ne:Nat.beq x y=false) (h:lk l x=some w):lk (rm [y] l) x=some w:=by
 induction l with
 | nil=>exact h
 | cons p l ih=>
  obtain ⟨k,u⟩:=p
  show lk (cond (d3 [y] k) (rm [y] l) ((k,u) :: rm [y] l)) x=some w
  rw [bC] at h
  by_cases q:k=x
  ·subst q
   rw [if_pos rfl] at h
   have:d3 [y] k=false:=by
    show cond (Nat.beq y k) true false=false
    have:Nat.beq y k=false:=jl fun e=>by rw [e,Nat.beq_refl] at ne; cases ne
    rw [this]; rfl
   rw [this]
   show lk ((k,u) :: rm [y] l) k=_
   rw [bC,if_pos rfl]; exact h
  ·rw [if_neg q] at h
   cases d3 [y] k with
   | true=>exact ih h
   | false=>
    show lk ((k,u) :: rm [y] l) x=_
    rw [bC,if_neg q]; exact ih h
noncomputable def Xg (T:Hp) (r:Nat):Prop:=1≤r∧∃ C fs,T.get r=some (.exc C fs)
section
variable (c:Cx) (d:Nat) (loc:Loc) (T:Hp)
noncomputable def w3 (e:PE) (Q:Nat→Hp→Prop):Prop:=∃ r T',XEv c e d loc T r T'∧Xg T' r∧Q r T'
noncomputable def tN (s:PS) (Q:Loc→Nat→Hp→Prop):Prop:=∃ l r T',XSt c s d loc T l r T'∧Xg T' r∧Q l r T'
noncomputable def pQ (b:PSs) (Q:Loc→Nat→Hp→Prop):Prop:=∃ l r T',XEx c b d loc T l r T'∧Xg T' r∧Q l r T'
end
noncomputable def lO (c:Cx) (T:Hp) (a:Nat) (args:List AV) (d:Nat) (Q:Nat→Hp→Prop):Prop:=∃ r T',XCa c a args d T r T'∧Xg T' r∧Q r T'
noncomputable def RsP (vs:List AV) (T:Hp) (K:AV→AV→Prop):Prop:=∃ w p,vs=[w,p]∧1≤T.n∧K w p
section
variable {c:Cx} {d:Nat} {loc l1:Loc} {T T':Hp} {Q:Nat→Hp→Prop} {QL:Loc→Nat→Hp→Prop} {N:Loc→Hp→Prop} {R:AV→Hp→Prop} {e o it tst:PE} {l:PEs} {b b2 bb:PSs} {s:PS} {x m cl y z C D r f:Nat} {xs:List Nat} {ik:IK} {w p v:AV} {fs:List (Nat × AV)}
theorem yn {KP:AV→AV→Prop} (h:1≤T.n) (q:KP w p):RsP [w,p] T KP:=⟨_,_,rfl,h,q⟩
theorem qw (h:StP c d loc T s (fun l T1=>pQ c d l T1 b QL) (fun _ _=>False)):pQ c d loc T (.cons s b) QL:=by
 obtain ⟨_,_,h1,_,_,_,h2,g,q⟩ | ⟨_,_,_,f⟩:=h
 ·exact ⟨_,_,_,tY h1 h2,g,q⟩
 ·exact f.elim
theorem eA (h:tN c d loc T s QL):pQ c d loc T (.cons s b) QL:=by
 refine zEEEA h fun _ _ _ h1 q=>?_
 exact ⟨_,_,_,th h1,q⟩
theorem rV (h:w3 c d loc T e (QL loc)):tN c d loc T (.expr e) QL:=by
 refine zEEA h fun _ _ h1 q=>?_
 exact ⟨_,_,_,ut h1,q⟩
theorem nz (h:TrP c d loc T tst fun w T1=>pQ c d loc T1 (cond w b b2) QL):tN c d loc T (.ite tst b b2) QL:=by
 refine zEEAEEE h fun _ _ h1 _ _ _ gC0=>?_
 refine zA gC0 fun h2 q=>?_
 exact ⟨_,_,_,xw _ h1 h2,q⟩
theorem pJ (ok:Ok c) (xo:jG c D C) (hx:lk c.G.glb x=some (.obj C)) (h:EsP c d loc T l fun vs T1=>RsP vs T1 fun w p=>QL loc T1.n (aq T1 (.exc C [(d6,w),(fE,p)]))):tN c d loc T (.raise (.call (.glb x) l)) QL:=by
 refine zEEAEELA h fun _ _ _ h1 h2 q=>?_
 exact ⟨_,_,_,qE ok xo hx h1,⟨h2,_,_,ag _ _⟩,q⟩
theorem sx (ok:Ok c) (h:EvP c d loc T o fun v T1=>MtP c T1 v m fun r f=>EsP c d loc T1 l fun vs T2=>lO c T2 f (.ref r :: vs) d Q):w3 c d loc T (.meth o m l) Q:=by
 refine gp fun gP gH=>?_
 obtain ⟨_,_,h1,r,C,fs,ci,f,rfl,h2,h3,h4,h5,_,_,h6,_,_,h7,q⟩:=h
 apply gH;clear gH
 exact ⟨_,_,tQ ok h1 h2 h3 h4 h5 h6 h7,q⟩
theorem w8 (ok:Ok c) (h0:lk loc x=some (.ref r)) (h:T.get r=some (.inst C fs)) (h2:mth c.G C m=some f) (h4:lk fs m=none) (q:EsP c d loc T l fun vs T2=>lO c T2 f (.ref r :: vs) d Q):w3 c d loc T (.meth (.loc x) m l) Q:=
 sx ok (aE h0 (iQ h h2 h4 q))
theorem rp (ok:Ok c) (xo:jG c D C) (hcl:lk c.G.glb cl=some (.obj D)) (h:pQ c d loc T b fun l r T1=>∃ fs w,T1.get r=some (.exc C fs)∧lk fs d6=some w∧N (rm [y] (pt (pt l y (.ref r)) z w)) T1):StP c d loc T (.try b cl y (.cons (.asg z (.attr (.loc y) d6)) .nil)) N R:=by
 refine gp fun gP gH=>?_
 refine zEEEAAE h fun _ _ _ h1 gN0 fs gC0=>?_
 refine zEAA gC0 fun w h2 h3 q=>?_
 obtain ⟨g1,_⟩:=gN0
 apply gH;clear gH
 exact .inl ⟨_,_,s6 ok xo hcl h1 g1 h2 h3,q⟩
theorem uJ (ok:Ok c) {args:List AV} {fi:FI} {l:Loc} (hfi:lk c.G.fns f=some fi) (hl:binds fi.params args (fi.dfl.drop (args.length - (fi.params.length - fi.dfl.length))) (fi.params.length - fi.dfl.length)=some l) (h:∀ l':Loc,(∀ x v,lk l x=some v→lk l' x=some v)→∀ Q':Nat→Hp→Prop,(∀ u T',Q u T'→Q' u T')→pQ c d l' T fi.body (fun _=>Q')):lO c T f args (d+1) Q:=by
 refine gp fun gP gH=>?_
 refine zEEEAA (h l (fun _ _ e=>e) Q fun _ _ q=>q) fun _ _ _ h1 gN0 q=>?_
 obtain ⟨g1,_,_,g2⟩:=gN0
 apply gH;clear gH
 exact ⟨_,_,wu ok hfi hl g1 g2 h1,⟨g1,_,_,g2⟩,q⟩
theorem lO.imp {args:List AV} {P:Nat→Hp→Prop} (h:lO c T f args d Q) (k:∀ r T',Q r T'→P r T'):lO c T f args d P:=let ⟨r,T',h,g,q⟩:=h; ⟨r,T',h,g,k r T' q⟩
end
end Mine.Internal
end
section
open PySem PySem.W PyProof.Rows
namespace Mine.Internal
theorem HR.ord {c:Cx} {ρ δ:Nat→Addr} {T:Hp} {h:Heap} {r:Nat} {g:List Nat} (hr:HR c ρ δ T T.n h) (e:T.get r=some (.set g none)):∃ τ ep sl,τ.Perm g∧HR c ρ δ (aI T r (.set τ (some (ep,sl)))) T.n h:=by
 refine zAEEEAA (hr.obj _ _ e) fun lt g' es ep h1 h2 gC0=>?_
 refine zA gC0 fun h3 _=>?_
 cases h3 rfl
 refine zEA (SEl.perm (qh (w:=c.w) (a:=ρ r) (ep:=ep)) h2.2) fun τ p w=>?_
 refine ⟨τ,ep,cond (bT c.w) [] g,p,{ hr with obj:=fun i o q=>?_ }⟩
 rw [ew T _ r i lt] at q
 by_cases z:i=r
 ·rw [if_pos z] at q
  cases q
  subst z
  exact ⟨lt,g,es,ep,h1,h2,(fun z=>by cases z),(fun q z=>by cases z; exact ⟨rfl,w⟩)⟩
 ·rw [if_neg z] at q
  exact hr.obj i o q
noncomputable def lX (T:Hp) (r:Nat):Hp:=⟨fun x=>if x=r∨x=T.n then none else T.m x,T.n+1⟩
theorem sY {T:Hp} {r x:Nat} {o:AO} (h:(lX T r).get x=some o):x≠r∧x<T.n∧T.get x=some o:=by
 have lt:x<T.n+1:=aP h
 unfold Hp.get at h ⊢
 rw [if_pos (show x<(lX T r).n from lt)] at h
 have h:(if x=r∨x=T.n then none else T.m x)=some o:=h
 by_cases q:x=r∨x=T.n
 ·rw [if_pos q] at h; cases h
 ·rw [if_neg q] at h
  have lx:x<T.n:=Nat.lt_of_le_of_ne (Nat.le_of_lt_succ lt) fun e=>q (.inr e)
  rw [if_pos lx]
  exact ⟨fun e=>q (.inl e),lx,h⟩
theorem uy {T:Hp} {r x:Nat} {o:AO} (h:T.get x=some o) (ne:x≠r):(lX T r).get x=some o:=by
 have lt:=aP h
 unfold Hp.get at h ⊢
 rw [if_pos lt] at h
 rw [if_pos (show x<(lX T r).n from Nat.lt_succ_of_lt lt)]
 show (if x=r∨x=T.n then none else T.m x)=some o
 rw [if_neg fun q=>q.elim ne (Nat.ne_of_lt lt)]; exact h
theorem qR {c:Cx} {d:Nat} {loc:Loc} {T T1 T2:Hp} {e:PE} {v:AV} (n:T2.n=T1.n) (k:∀ x o,T2.get x=some o→T1.get x=some o) (h:Ev c e d loc T v T1):Ev c e d loc T v T2:=by
 intro x env A s ρ δ Q E me at' ct
 refine h x env A s ρ δ Q E me at' fun ρ' δ' h' t' val g hr vr=>ct ρ' δ' h' t' val (by rw [n]; exact g) ?_ (by rw [n]; exact vr)
 rw [n]
 exact { hr with obj:=fun i o q=>hr.obj i o (k i o q) }
theorem yg {c:Cx} {d r:Nat} {loc:Loc} {T T':Hp} {e:PE} {v:AV} {g:List Nat} (h:T.get r=some (.set g none)) (k:∀ τ ep sl,τ.Perm g→Ev c e d loc (aI T r (.set τ (some (ep,sl)))) v T'):Ev c e d loc T v T':=by
 intro x env A s ρ δ Q E me at' ct
 refine zEEEA (at'.hr.ord h) fun τ ep sl p hr=>?_
 exact k τ ep sl p x env A s ρ δ Q E me ⟨at'.fr,hr,at'.ro,at'.fm⟩ ct
section
variable {c:Cx} {T:Hp} {r r':Nat} {x y:Int}
theorem w7:Cm c .ge (.int x) (.int y) T (decide (y≤x)):=by
 intro d A s ρ δ _ _ Q E hr ro gX0 gX1 nx
 refine zE gX0 fun _ gR0=>?_
 clear gX0
 subst gR0
 refine zE gX1 fun _ gR0=>?_
 clear gX1
 subst gR0
 exact P.ge_int (nx s.heap s.toks Go.refl hr)
theorem wY {xs ys:List Int} (h:xs.length=ys.length):((List.range xs.length).all fun j=>decide (xs[j]?=ys[j]?))=decide (xs=ys):=by
 rw [Bool.eq_iff_iff,List.all_eq_true,decide_eq_true_eq]
 constructor
 ·intro k
  refine List.ext_getElem? fun j=>?_
  rcases Nat.lt_or_ge j xs.length with q | q
  ·exact of_decide_eq_true (k j (List.mem_range.mpr q))
  ·rw [List.getElem?_eq_none q,List.getElem?_eq_none (h▸q)]
 ·intro e j _; rw [e]; exact decide_eq_true rfl
theorem VRs.ints {n:Nat} {ρ:Nat→Addr} {xs:List Int} {vs:List Value} (h:VRs n ρ (xs.map .int) vs) {j:Nat} (hj:j<vs.toArray.size):∃ i t,xs[j]?=some i∧vs.toArray[j]=.int i t:=by
 refine zEA (h.get hj) fun a h1 h2=>?_
 rw [List.getElem?_map] at h1
 cases e:xs[j]? with
 | none=>rw [e] at h1; cases h1
 | some i=>rw [e] at h1; cases h1; obtain ⟨t,q⟩:=h2; exact ⟨i,t,rfl,q⟩
theorem oZ {xs ys:List Int} (h1:T.get r=some (.list (xs.map .int))) (h2:T.get r'=some (.list (ys.map .int))) {A:Around} {s:Shared} {ρ δ:Nat→Addr} (hr:HR c ρ δ T T.n s.heap) (hu:A.units<cLine) (hu1:A.in1.units<cLine) :
  SeqAt.RcAt A s (.ref (ρ r)) (.ref (ρ r')) (decide (xs=ys))∧SeqAt.RcNeAt A s (.ref (ρ r)) (.ref (ρ r')) (!decide (xs=ys)):=by
 refine zEEA ((hr.obj _ _ h1).2) fun vs k p1 w1=>?_
 refine zEEA ((hr.obj _ _ h2).2) fun us k' p2 w2=>?_
 have i1:s.heap.IsList (ρ r) vs.toArray:=⟨_,p1,rfl,k,rfl⟩
 have i2:s.heap.IsList (ρ r') us.toArray:=⟨_,p2,rfl,k',rfl⟩
 have lv:vs.toArray.size=xs.length:=by rw [List.size_toArray,← w1.len,LQ]
 have lu:us.toArray.size=ys.length:=by rw [List.size_toArray,← w2.len,LQ]
 by_cases q:xs.length=ys.length
 ·have e:vs.toArray.size=us.toArray.size:=by rw [lv,lu]; exact q
  have each:∀ j (g1:j<vs.toArray.size) (g2:j<us.toArray.size),SeqAt.EqAt A.in1 s vs.toArray[j] us.toArray[j] (decide (xs[j]?=ys[j]?)):=fun j g1 g2=>by
   refine zEEA (w1.ints g1) fun a t q1 e1=>?_
   refine zEEA (w2.ints g2) fun b u q2 e2=>?_
   rw [e1,e2,q1,q2]
   have:=SeqAt.EqAt.int_int (A:=A.in1) (s:=s) a t b u
   rw [show decide (some a=some b)=(a == b) by rw [Bool.eq_iff_iff,decide_eq_true_eq,beq_iff_eq]; exact ⟨fun h=>Option.some.inj h,fun h=>by rw [h]⟩]
   exact this
  have a1:=SeqAt.RcAt.lists i1 i2 e hu each
  have a2:=SeqAt.RcNeAt.lists i1 i2 e hu each
  rw [lv,wY q] at a1 a2
  exact ⟨a1,a2⟩
 ·have e:(vs.toArray.size != us.toArray.size)=true:=by rw [lv,lu]; exact bne_iff_ne.mpr q
  have z:decide (xs=ys)=false:=decide_eq_false fun h=>q (by rw [h])
  rw [z]
  exact ⟨SeqAt.RcAt.lists_lengths i1 i2 e hu,SeqAt.RcNeAt.lists_lengths i1 i2 e hu⟩
theorem ph {xs ys:List Int} (h1:T.get r=some (.list (xs.map .int))) (h2:T.get r'=some (.list (ys.map .int))):Cm c .eq (.ref r) (.ref r') T (decide (xs=ys)):=by
 intro d A s ρ δ va vb Q E hr ro ra rb nx
 rw [ra.2,rb.2]
 have hu:=gv (f:=0) ro (by decide)
 exact (oZ h1 h2 hr (by omega) (by have:A.in1.units=A.units+1:=rfl; omega)).1 _ _ _ _ (nx s.heap s.toks Go.refl hr)
theorem xh {xs ys:List Int} (h1:T.get r=some (.list (xs.map .int))) (h2:T.get r'=some (.list (ys.map .int))):Cm c .ne (.ref r) (.ref r') T (!decide (xs=ys)):=by
 intro d A s ρ δ va vb Q E hr ro ra rb nx
 rw [ra.2,rb.2]
 have hu:=gv (f:=0) ro (by decide)
 exact (oZ h1 h2 hr (by omega) (by have:A.in1.units=A.units+1:=rfl; omega)).2 _ _ _ _ (nx s.heap s.toks Go.refl hr)
end
section
variable {c:Cx} {d r C x a m f:Nat} {loc l9:Loc} {T T1 T2:Hp} {N:Loc→Hp→Prop} {R:AV→Hp→Prop} {l ifs:PEs} {e it tst:PE} {v:AV} {vs:List AV} {fs:List (Nat × AV)} {b b1 b2:PSs} {xs:List Nat} {ik:IK}
theorem aO (ok:Ok c) (h0:lk loc x=some (.ref r)) (h:T.get r=some (.inst C fs)) (h2:fld c.G C a=true) (h4:lk fs a=some v):Ev c (.attr (.loc x) a) d loc T v T:=
 let ⟨_,h5,h6⟩:=gL h2; kS ok (aj h0) h h5 h6 h4
theorem fC (ok:Ok c) (h0:Ev c e d loc T (.ref r) T1) (h:T1.get r=some (.inst C fs)) (h2:fld c.G C a=true) (h4:lk fs a=some v):Ev c (.attr e a) d loc T v T1:=
 let ⟨_,h5,h6⟩:=gL h2; kS ok h0 h h5 h6 h4
theorem dN (ok:Ok c) (h0:Ev c e d loc T (.ref r) T1) (h:T1.get r=some (.inst C fs)) (h2:mth c.G C m=some f) (h4:lk fs m=none) (h5:Evs c l d loc T1 vs T2) {T3:Hp} (h6:Ca c f (.ref r :: vs) d T2 v T3):Ev c (.meth e m l) d loc T v T3:=
 let ⟨_,h7,h8⟩:=rN h2; rK ok h0 h h7 h8 h4 h5 h6
theorem bp (ok:Ok c) (h0:lk loc x=some (.ref r)) (h:T.get r=some (.inst C fs)) (h2:mth c.G C m=some f) (h4:lk fs m=none) (h5:Evs c l d loc T vs T1) (h6:Ca c f (.ref r :: vs) d T1 v T2):Ev c (.meth (.loc x) m l) d loc T v T2:=
 dN ok (aj h0) h h2 h4 h5 h6
theorem ah (h0:lk loc x=some v) (h:Evs c l d loc T vs T1):Evs c (.cons (.loc x) l) d loc T (v :: vs) T1:=ai (aj h0) h
theorem rH {Q:AV→Hp→Prop} (h:Ev c e d loc T v T1) (q:Q v T1):EvP c d loc T e Q:=⟨_,_,h,q⟩
theorem aV (h:Ev c e d loc T v T1) (q:ExP c d loc T1 b N R):ExP c d loc T (.cons (.expr e) b) N R:=am (kO (rH h q))
theorem aR (h:Ev c e d loc T v T1) (q:ExP c d (pt loc x v) T1 b N R):ExP c d loc T (.cons (.asg x e) b) N R:=am (fT (rH h q))
theorem aK (h:Ev c e d loc T v T1) (q:R v T1):ExP c d loc T (.cons (.ret e) b) N R:=am (iW (rH h q))
theorem be (ok:Ok c) (h:Ev c e d loc T v T1) (h0:lk loc x=some (.ref r)) (h1:T1.get r=some (.inst C fs)) (h2:fld c.G C a=true) (h4:fs.length<500) (h5:1≤r) (q:ExP c d loc (aI T1 r (.inst C (pt fs a v))) b N R):ExP c d loc T (.cons (.asgA (.loc x) a e) b) N R:=am (eu ok (rH h (m7 h0 h1 h2 h4 h5 q)))
theorem bF (h:Tr c tst d loc T true T1) (q:ExP c d loc T1 b1 (fun l T2=>ExP c d l T2 b N R) R):ExP c d loc T (.cons (.ite tst b1 b2) b) N R:=am (dj ⟨_,_,h,q⟩)
theorem hW (h:Tr c tst d loc T false T1) (q:ExP c d loc T1 b2 (fun l T2=>ExP c d l T2 b N R) R):ExP c d loc T (.cons (.ite tst b1 b2) b) N R:=am (dj ⟨_,_,h,q⟩)
theorem aL (h:Tr c tst d loc T false T1) (q:ExP c d loc T1 b N R):ExP c d loc T (.cons (.ite tst b1 .nil) b) N R:=hW h (ax q)
theorem o9 (h:Ev c it d loc T (.ref r) T1) (h1:ed T1 r ik) (h2:Co c (.list e) T1.n xs r ik 0 ifs d (rm (bq :: xs) loc) (aq T1 (.list [])) T2) (q:ExP c d (pt loc x (.ref T1.n)) T2 b N R):ExP c d loc T (.cons (.asgC x e xs it ifs) b) N R:=am (wk (rH h (jx h1 (wn h2 q))))
end
noncomputable def wL:FI:={ params:=[1769300593],dfl:=[],body:=(.cons (.ite (.or (.cons (.cmp .isnt (.call (.glb 1718712949) (.cons (.loc 1769300593) .nil)) (.glb 7566708)) (.cons (.not (.meth (.loc 1769300593) 498014421767949786445172 (.cons (.str [47]) .nil))) .nil))) (.cons .bad .nil) .nil) (.cons (.ite (.cmp .eq (.loc 1769300593) (.str [47])) (.cons (.ret (.loc 1769300593)) .nil) .nil) (.cons (.for1 [1718510191] (.meth (.slice (.loc 1769300593) false (.int 1)) 504296730996 (.cons (.str [47]) .nil)) (.cons (.ite (.or (.cons (.cmp .eq (.loc 1718510191) (.str [])) (.cons (.cmp .gt (.call (.glb 7300717) (.cons (.loc 1718510191) .nil)) (.glb 24018033858007117)) (.cons (.cmp .isin (.loc 1718510191) (.list (.cons (.str [46]) (.cons (.str [46,46]) .nil)))) (.cons (.cmp .ne (.meth (.loc 1718510191) 487117256052 (.cons (.glb 362107390548) .nil)) (.str [])) .nil))))) (.cons .bad .nil) .nil) .nil)) (.cons (.ret (.loc 1769300593)) .nil)))) }
noncomputable def sH:FI:={ params:=[1769300593],dfl:=[],body:=(.cons (.ite (.cmp .eq (.call (.glb 1701209711) (.cons (.loc 1769300593) .nil)) (.str [47])) (.cons .bad .nil) .nil) (.cons (.asg 7698020 (.meth (.loc 1769300593) 133480695425651 (.cons (.str [47]) .nil))) (.cons (.ite (.cmp .eq (.loc 7698020) (.int 0)) (.cons (.ret (.str [47])) .nil) .nil) (.cons (.ret (.slice (.loc 1769300593) true (.loc 7698020))) .nil)))) }
noncomputable def we:FI:={ params:=[1769300593],dfl:=[],body:=(.cons (.ret (.slice (.call (.glb 1701209711) (.cons (.loc 1769300593) .nil)) false (.bin .add (.meth (.loc 1769300593) 133480695425651 (.cons (.str [47]) .nil)) (.int 1)))) .nil) }
noncomputable def ww:FI:={ params:=[1769300593,1718510191],dfl:=[],body:=(.cons (.ite (.cmp .eq (.loc 1769300593) (.str [47])) (.cons (.ret (.call (.glb 1701209711) (.cons (.bin .add (.str [47]) (.loc 1718510191)) .nil))) .nil) .nil) (.cons (.ret (.call (.glb 1701209711) (.cons (.bin .add (.bin .add (.loc 1769300593) (.str [47])) (.loc 1718510191)) .nil))) .nil)) }
noncomputable def og:FI:={ params:=[1769300593,126883592042095],dfl:=[],body:=(.cons (.ret (.call (.glb 1701209711) (.cons (.bin .add (.bin .add (.loc 1769300593) (.bin .mul (.str [48]) (.bin .sub (.int 10) (.call (.glb 7300717) (.cons (.call (.glb 7566708) (.cons (.loc 126883592042095) .nil)) .nil))))) (.call (.glb 7566708) (.cons (.loc 126883592042095) .nil))) .nil))) .nil) }
noncomputable def fN:FI:={ params:=[1735222900,126883592042095,1936094326,33062797402073717,1818520181],dfl:=[],body:=(.cons (.asgA (.loc 1735222900) 126883592042095 (.loc 126883592042095)) (.cons (.asgA (.loc 1735222900) 1936094326 (.loc 1936094326)) (.cons (.asgA (.loc 1735222900) 33062797402073717 (.loc 33062797402073717)) (.cons (.asgA (.loc 1735222900) 435727525481 (.loc 1818520181)) .nil)))) }
noncomputable def lE:FI:={ params:=[500034726517],dfl:=[],body:=(.cons (.ite (.or (.cons (.cmp .isnt (.call (.glb 1718712949) (.cons (.loc 500034726517) .nil)) (.glb 7696234)) (.cons (.cmp .lt (.loc 500034726517) (.int 1)) .nil))) (.cons .bad .nil) .nil) (.cons (.ret (.loc 500034726517)) .nil)) }
noncomputable def mV:FI:={ params:=[1936094326],dfl:=[],body:=(.cons (.ite (.or (.cons (.cmp .isnt (.call (.glb 1718712949) (.cons (.loc 1936094326) .nil)) (.glb 7566708)) (.cons (.cmp .isin (.loc 1936094326) (.list (.cons (.str []) (.cons (.str [42]) .nil)))) .nil))) (.cons .bad .nil) .nil) (.cons (.ret (.loc 1936094326)) .nil)) }
noncomputable def gX:FI:={ params:=[1735222900,1651860069,495639820400,440039269997,128047628446323,8030035183836554867],dfl:=[],body:=(.cons (.asgA (.loc 1735222900) 1651860069 (.loc 1651860069)) (.cons (.asgA (.loc 1735222900) 31367324937447031 (.int 0)) (.cons (.asgA (.loc 1735222900) 1952803436 (.int 0)) (.cons (.asgA (.loc 1735222900) 495639820400 (.loc 495639820400)) (.cons (.asgA (.loc 1735222900) 440039269997 (.loc 440039269997)) (.cons (.asgA (.loc 1735222900) 128047628446323 (.loc 128047628446323)) (.cons (.asgA (.loc 1735222900) 32482276888965220 (.int 0)) (.cons (.asgA (.loc 1735222900) 1717920366 (.loc 8030035183836554867)) (.cons (.asgA (.loc 1735222900) 28541571379128676 (.loc 8030035183836554867)) .nil))))))))) }
noncomputable def lG:FI:={ params:=[1735222900],dfl:=[],body:=(.cons (.ret (.tuple (.cons (.attr (.loc 1735222900) 1651860069) (.cons (.attr (.loc 1735222900) 31367324937447031) (.cons (.attr (.loc 1735222900) 1952803436) (.cons (.attr (.loc 1735222900) 495639820400) (.cons (.attr (.loc 1735222900) 440039269997) (.cons (.attr (.loc 1735222900) 128047628446323) (.cons (.attr (.loc 1735222900) 32482276888965220) (.cons (.attr (.loc 1735222900) 1717920366) (.cons (.attr (.loc 1735222900) 28541571379128676) .nil))))))))))) .nil) }
noncomputable def lF:FI:={ params:=[1735222900],dfl:=[],body:=(.cons (.asg 495639426416 (.call (.glb 525923086150) (.cons (.attr (.loc 1735222900) 1651860069) (.cons (.attr (.loc 1735222900) 495639820400) (.cons (.attr (.loc 1735222900) 440039269997) (.cons (.attr (.loc 1735222900) 128047628446323) (.cons (.attr (.loc 1735222900) 1717920366) .nil))))))) (.cons (.asgA (.loc 495639426416) 31367324937447031 (.attr (.loc 1735222900) 31367324937447031)) (.cons (.asgA (.loc 495639426416) 1952803436 (.attr (.loc 1735222900) 1952803436)) (.cons (.asgA (.loc 495639426416) 32482276888965220 (.attr (.loc 1735222900) 32482276888965220)) (.cons (.asgA (.loc 495639426416) 28541571379128676 (.attr (.loc 1735222900) 28541571379128676)) (.cons (.ret (.loc 495639426416)) .nil)))))) }
noncomputable def iw:FI:={ params:=[1735222900],dfl:=[],body:=(.cons (.asgA (.loc 1735222900) 32763704688078694 (.dict (.cons (.str [47]) (.cons (.call (.glb 525923086150) (.cons (.str []) (.cons .none (.cons .none (.cons (.glb 1330008400) (.cons (.int 0) .nil)))))) .nil)))) .nil) }
noncomputable def nN:FI:={ params:=[1735222900,1769300593],dfl:=[],body:=(.cons (.ret (.cmp .isin (.loc 1769300593) (.attr (.loc 1735222900) 32763704688078694))) .nil) }
noncomputable def kA:FI:={ params:=[1735222900,1769300593],dfl:=[],body:=(.cons (.ite (.cmp .notin (.loc 1769300593) (.attr (.loc 1735222900) 32763704688078694)) (.cons .bad .nil) .nil) (.cons (.ret (.sub (.attr (.loc 1735222900) 32763704688078694) (.loc 1769300593))) .nil)) }
noncomputable def io:FI:={ params:=[1735222900,1769300593],dfl:=[],body:=(.cons (.expr (.meth (.loc 1735222900) 525923086182 (.cons (.loc 1769300593) .nil))) (.cons (.ret (.call (.glb 111490731569268) (.cons (.listc (.call (.glb 1970561645) (.cons (.loc 6713200) .nil)) [6713200] (.attr (.loc 1735222900) 32763704688078694) (.cons (.and (.cons (.cmp .ne (.loc 6713200) (.str [47])) (.cons (.cmp .eq (.call (.glb 129121320657521) (.cons (.loc 6713200) .nil)) (.loc 1769300593)) .nil))) .nil)) .nil))) .nil)) }
noncomputable def mZ:FI:={ params:=[1735222900],dfl:=[],body:=(.cons (.asg 495639426416 (.call (.glb 1717990229) .nil)) (.cons (.asgA (.loc 495639426416) 32763704688078694 (.dictc (.loc 1769300593) (.meth (.sub (.attr (.loc 1735222900) 32763704688078694) (.loc 1769300593)) 2054254692 .nil) 1769300593 (.attr (.loc 1735222900) 32763704688078694) .nil)) (.cons (.ret (.loc 495639426416)) .nil))) }
noncomputable def lM:FI:={ params:=[1735222900],dfl:=[],body:=(.cons (.ret (.listc (.bin .add (.tuple (.cons (.loc 1769300593) .nil)) (.meth (.sub (.attr (.loc 1735222900) 32763704688078694) (.loc 1769300593)) 7893107 .nil)) [1769300593] (.call (.glb 111490731569268) (.cons (.attr (.loc 1735222900) 32763704688078694) .nil)) .nil)) .nil) }
noncomputable def lj:FI:={ params:=[1735222900,8030035183836554867,112598731352420],dfl:=[],body:=(.cons (.asgW [1702064248,1769300593] (.tuple (.cons (.sub (.loc 112598731352420) (.int 0)) (.cons (.sub (.loc 112598731352420) (.int 1)) .nil)))) (.cons (.ite (.cmp .eq (.loc 1702064248) (.str [99,114,101,97,116,101])) (.cons (.expr (.meth (.loc 1735222900) 28839513110570080 (.cons (.loc 8030035183836554867) (.cons (.loc 1769300593) (.cons (.sub (.loc 112598731352420) (.int 2)) .nil))))) .nil) (.cons (.ite (.cmp .eq (.loc 1702064248) (.str [115,101,116])) (.cons (.asg 525923086182 (.meth (.loc 1735222900) 525923086182 (.cons (.loc 1769300593) .nil))) (.cons (.asgA (.loc 525923086182) 1651860069 (.sub (.loc 112598731352420) (.int 2))) (.cons (.asgA (.loc 525923086182) 31367324937447031 (.bin .add (.attr (.loc 525923086182) 31367324937447031) (.int 1))) (.cons (.asgA (.loc 525923086182) 28541571379128676 (.loc 8030035183836554867)) .nil)))) (.cons (.ite (.cmp .eq (.loc 1702064248) (.str [100,101,108,101,116,101])) (.cons (.expr (.meth (.loc 1735222900) 28839530407028064 (.cons (.loc 1769300593) .nil))) .nil) (.cons (.ite (.cmp .eq (.loc 1702064248) (.str [114,105,103,104,116,115])) (.cons (.asgA (.meth (.loc 1735222900) 525923086182 (.cons (.loc 1769300593) .nil)) 128047628446323 (.sub (.loc 112598731352420) (.int 2))) .nil) (.cons .bad .nil)) .nil)) .nil)) .nil)) .nil)) }
noncomputable def js:FI:={ params:=[1735222900,8030035183836554867,1769300593,478460471912],dfl:=[],body:=(.cons (.asgT [1651860069,495639820400,440039269997,128047628446323,126883592042095] (.loc 478460471912)) (.cons (.ite (.meth (.loc 1735222900) 7627369 (.cons (.loc 1769300593) .nil)) (.cons .bad .nil) .nil) (.cons (.asg 440090518370 (.meth (.loc 1735222900) 525923086182 (.cons (.call (.glb 129121320657521) (.cons (.loc 1769300593) .nil)) .nil))) (.cons (.ite (.or (.cons (.cmp .isnt (.attr (.loc 440090518370) 495639820400) .none) (.cons (.cmp .isnt (.attr (.loc 440090518370) 440039269997) .none) .nil))) (.cons .bad .nil) .nil) (.cons (.asgA (.loc 440090518370) 1952803436 (.bin .add (.attr (.loc 440090518370) 1952803436) (.int 1))) (.cons (.ite (.loc 126883592042095) (.cons (.asgA (.loc 440090518370) 32482276888965220 (.bin .add (.attr (.loc 440090518370) 32482276888965220) (.int 1))) .nil) .nil) (.cons (.asgS (.attr (.loc 1735222900) 32763704688078694) (.loc 1769300593) (.call (.glb 525923086150) (.cons (.loc 1651860069) (.cons (.loc 495639820400) (.cons (.loc 440039269997) (.cons (.loc 128047628446323) (.cons (.loc 8030035183836554867) .nil))))))) .nil))))))) }
noncomputable def jk:FI:={ params:=[1735222900,1769300593],dfl:=[],body:=(.cons (.expr (.meth (.loc 1735222900) 525923086182 (.cons (.loc 1769300593) .nil))) (.cons (.ite (.cmp .eq (.loc 1769300593) (.str [47])) (.cons .bad .nil) .nil) (.cons (.ite (.cmp .gt (.call (.glb 7300717) (.cons (.meth (.loc 1735222900) 8027230265299069284 (.cons (.loc 1769300593) .nil)) .nil)) (.int 0)) (.cons .bad .nil) .nil) (.cons (.delS (.attr (.loc 1735222900) 32763704688078694) (.loc 1769300593)) (.cons (.asg 440090518370 (.meth (.loc 1735222900) 525923086182 (.cons (.call (.glb 129121320657521) (.cons (.loc 1769300593) .nil)) .nil))) (.cons (.asgA (.loc 440090518370) 1952803436 (.bin .add (.attr (.loc 440090518370) 1952803436) (.int 1))) .nil)))))) }
noncomputable def eZ:FI:={ params:=[1735222900,8030035183836554867,1717990261],dfl:=[],body:=(.cons (.asgA (.loc 1735222900) 8030035183836554867 (.loc 8030035183836554867)) (.cons (.asgA (.loc 1735222900) 1717990261 (.meth (.loc 1717990261) 2054254692 .nil)) .nil)) }
noncomputable def iN:FI:={ params:=[1735222900],dfl:=[],body:=(.cons (.asgA (.loc 1735222900) 1954050163 (.list .nil)) (.cons (.asgA (.loc 1735222900) 8462379648668561268 (.call (.glb 8462379648668561236) (.cons (.int 0) (.cons (.call (.glb 1717990229) .nil) .nil)))) (.cons (.asgA (.loc 1735222900) 504447006068 (.int 0)) .nil))) }
noncomputable def pK:FI:={ params:=[1735222900,8030035183836554867,1818520181,32763696029788516],dfl:=[],body:=(.cons (.ite (.cmp .ne (.loc 8030035183836554867) (.bin .add (.meth (.loc 1735222900) 1970561645 .nil) (.int 1))) (.cons .bad .nil) .nil) (.cons (.expr (.meth (.attr (.loc 1735222900) 1954050163) 111529134485858 (.cons (.tuple (.cons (.loc 8030035183836554867) (.cons (.loc 1818520181) (.cons (.call (.glb 439922816629) (.cons (.loc 32763696029788516) .nil)) .nil)))) .nil))) .nil)) }
noncomputable def ny:FI:={ params:=[1735222900],dfl:=[],body:=(.cons (.ite (.cmp .eq (.call (.glb 7300717) (.cons (.attr (.loc 1735222900) 1954050163) .nil)) (.int 0)) (.cons (.ret (.attr (.loc 1735222900) 504447006068)) .nil) .nil) (.cons (.ret (.sub (.sub (.attr (.loc 1735222900) 1954050163) (.neg (.int 1))) (.int 0))) .nil)) }
noncomputable def mQ:FI:={ params:=[1735222900],dfl:=[],body:=(.cons (.asg 1717990261 (.meth (.attr (.attr (.loc 1735222900) 8462379648668561268) 1717990261) 2054254692 .nil)) (.cons (.for1 [8030035183836554867,1818520181,32763696029788516] (.attr (.loc 1735222900) 1954050163) (.cons (.ite (.cmp .gt (.loc 8030035183836554867) (.attr (.attr (.loc 1735222900) 8462379648668561268) 8030035183836554867)) (.cons (.for1 [112598731352420] (.loc 32763696029788516) (.cons (.expr (.meth (.loc 1717990261) 525822161250 (.cons (.loc 8030035183836554867) (.cons (.loc 112598731352420) .nil)))) .nil)) .nil) .nil) .nil)) (.cons (.ret (.loc 1717990261)) .nil))) }
noncomputable def jz:FI:={ params:=[128047628446323],dfl:=[],body:=(.cons (.ite (.cmp .is (.loc 128047628446323) .none) (.cons (.ret .none) .nil) .nil) (.cons (.ite (.or (.cons (.cmp .isnt (.call (.glb 1718712949) (.cons (.loc 128047628446323) .nil)) (.glb 1969515109)) (.cons .bad .nil))) (.cons .bad .nil) .nil) (.cons (.asg 435661729895 (.list .nil)) (.cons (.for1 [1936094326] (.call (.glb 111490731569268) (.cons (.loc 128047628446323) .nil)) (.cons (.asg 32777981192922733 (.sub (.loc 128047628446323) (.loc 1936094326))) (.cons (.ite (.or (.cons (.cmp .eq (.loc 1936094326) (.str [])) (.cons (.cmp .isnt (.call (.glb 1718712949) (.cons (.loc 32777981192922733) .nil)) (.glb 7566708)) (.cons (.cmp .ne (.meth (.loc 32777981192922733) 487117256052 (.cons (.glb 23735459588163149) .nil)) (.str [])) .nil)))) (.cons .bad .nil) .nil) (.cons (.expr (.meth (.loc 435661729895) 111529134485858 (.cons (.tuple (.cons (.loc 1936094326) (.cons (.meth (.str []) 1869246571 (.cons (.call (.glb 111490731569268) (.cons .bad .nil)) .nil)) .nil))) .nil))) .nil)))) (.cons (.ret (.call (.glb 439922816629) (.cons (.loc 435661729895) .nil))) .nil))))) }
noncomputable def lH:FI:={ params:=[1717990261,1769300593],dfl:=[],body:=(.cons (.whl (.or (.cons (.not (.meth (.loc 1717990261) 7627369 (.cons (.loc 1769300593) .nil))) (.cons (.cmp .is (.attr (.meth (.loc 1717990261) 525923086182 (.cons (.loc 1769300593) .nil)) 128047628446323) .none) .nil))) (.cons (.asg 1769300593 (.call (.glb 129121320657521) (.cons (.loc 1769300593) .nil))) .nil)) (.cons (.ret (.call (.glb 1969515109) (.cons (.attr (.meth (.loc 1717990261) 525923086182 (.cons (.loc 1769300593) .nil)) 128047628446323) .nil))) .nil)) }
noncomputable def yb:FI:={ params:=[1717990261,1769300593,1936094326,126883894486637],dfl:=[],body:=(.cons (.asg 128047628446323 (.call (.glb 1908112239769724414579) (.cons (.loc 1717990261) (.cons (.loc 1769300593) .nil)))) (.cons (.ret (.cmp .isin (.loc 126883894486637) (.bin .add (.meth (.loc 128047628446323) 7693928 (.cons (.loc 1936094326) (.cons (.str []) .nil))) (.meth (.loc 128047628446323) 7693928 (.cons (.str [42]) (.cons (.str []) .nil)))))) .nil)) }
noncomputable def kX:FI:={ params:=[1717990261,1769300593,1936094326,126883894486637],dfl:=[],body:=(.cons (.ite (.not (.call (.glb 8020590) (.cons (.loc 1717990261) (.cons (.loc 1769300593) (.cons (.loc 1936094326) (.cons (.loc 126883894486637) .nil)))))) (.cons .bad .nil) .nil) .nil) }
noncomputable def gE:FI:={ params:=[1735222900,1902536300],dfl:=[.none],body:=(.cons (.ite (.cmp .isnt (.loc 1902536300) .none) (.cons (.expr (.call (.glb 549793996097647679006319) (.cons (.loc 1902536300) .nil))) .nil) .nil) (.cons (.asgA (.loc 1735222900) 1717990261 (.call (.glb 1717990229) .nil)) (.cons (.asgA (.loc 1735222900) 6844525 (.call (.glb 6844493) .nil)) (.cons (.asgA (.loc 1735222900) 1902536300 (.loc 1902536300)) (.cons (.asgA (.loc 1735222900) 1818520181 (.int 0)) (.cons (.asgA (.loc 1735222900) 8030035183836554867 (.int 0)) (.cons (.asgA (.loc 1735222900) 8390048233337153140 (.dict .nil)) (.cons (.asgA (.loc 1735222900) 127983388092013 (.dict .nil)) (.cons (.asgA (.loc 1735222900) 32763700141449848 (.dict .nil)) (.cons (.asgA (.loc 1735222900) 504381206628 (.int 0)) .nil)))))))))) }
noncomputable def ic:FI:={ params:=[1735222900],dfl:=[],body:=(.cons (.asgA (.loc 1735222900) 504381206628 (.bin .add (.attr (.loc 1735222900) 504381206628) (.int 1))) (.cons (.ret (.attr (.loc 1735222900) 504381206628)) .nil)) }
noncomputable def bI:FI:={ params:=[1735222900,1936094326,33062797402073717],dfl:=[(.int (10))],body:=(.cons (.asg 31367324937512564 (.call (.glb 31367324937512532) (.cons (.bin .add (.attr (.loc 1735222900) 504381206628) (.int 1)) (.cons (.call (.glb 2128758224322155669103) (.cons (.loc 1936094326) .nil)) (.cons (.call (.glb 549793996097647679006319) (.cons (.loc 33062797402073717) .nil)) (.cons (.attr (.loc 1735222900) 1818520181) .nil)))))) (.cons (.asgS (.attr (.loc 1735222900) 8390048233337153140) (.meth (.loc 1735222900) 32482199562776416 .nil) (.loc 31367324937512564)) (.cons (.ret (.attr (.loc 31367324937512564) 126883592042095)) .nil))) }
noncomputable def ii:FI:={ params:=[1735222900,126883592042095],dfl:=[],body:=(.cons (.ite (.or (.cons (.cmp .isnt (.call (.glb 1718712949) (.cons (.loc 126883592042095) .nil)) (.glb 7696234)) (.cons (.cmp .notin (.loc 126883592042095) (.attr (.loc 1735222900) 8390048233337153140)) .nil))) (.cons .bad .nil) .nil) (.cons (.asgA (.sub (.attr (.loc 1735222900) 8390048233337153140) (.loc 126883592042095)) 435727525481 (.attr (.loc 1735222900) 1818520181)) (.cons (.ret (.sub (.attr (.loc 1735222900) 8390048233337153140) (.loc 126883592042095))) .nil))) }
noncomputable def jy:FI:={ params:=[1735222900,126883592042095],dfl:=[],body:=(.cons (.expr (.meth (.loc 1735222900) 31367324937512564 (.cons (.loc 126883592042095) .nil))) (.cons (.ret (.meth (.loc 1735222900) 1701799520 (.cons (.loc 126883592042095) .nil))) .nil)) }
noncomputable def kE:FI:={ params:=[1735222900,126883592042095],dfl:=[],body:=(.cons (.delS (.attr (.loc 1735222900) 8390048233337153140) (.loc 126883592042095)) (.cons (.asgA (.loc 1735222900) 32763700141449848 (.dictc (.loc 8021612) (.sub (.attr (.loc 1735222900) 32763700141449848) (.loc 8021612)) 8021612 (.attr (.loc 1735222900) 32763700141449848) (.cons (.cmp .ne (.attr (.sub (.attr (.loc 1735222900) 32763700141449848) (.loc 8021612)) 31367324937512564) (.loc 126883592042095)) .nil))) (.cons (.ret (.meth (.loc 1735222900) 29682873038698336 (.cons (.listc (.loc 1769300593) [1769300593] (.call (.glb 111490731569268) (.cons (.attr (.attr (.loc 1735222900) 1717990261) 32763704688078694) .nil)) (.cons (.cmp .eq (.attr (.sub (.attr (.attr (.loc 1735222900) 1717990261) 32763704688078694) (.loc 1769300593)) 495639820400) (.loc 126883592042095)) .nil)) .nil))) .nil))) }
noncomputable def ip:FI:={ params:=[1735222900,499985506929],dfl:=[],body:=(.cons (.ite (.cmp .gt (.call (.glb 7300717) (.cons (.loc 499985506929) .nil)) (.int 0)) (.cons (.expr (.meth (.loc 1735222900) 33049594806953056 (.cons (.meth (.attr (.loc 1735222900) 1717990261) 2054254692 .nil) (.cons (.listc (.tuple (.cons (.str [100,101,108,101,116,101]) (.cons (.loc 1769300593) .nil))) [1769300593] (.loc 499985506929) .nil) .nil)))) .nil) .nil) (.cons (.ret (.loc 499985506929)) .nil)) }
noncomputable def im:FI:={ params:=[1735222900,1717990261,32763696029788516],dfl:=[],body:=(.cons (.asg 8030035183836554867 (.bin .add (.attr (.loc 1735222900) 8030035183836554867) (.int 1))) (.cons (.for1 [112598731352420] (.loc 32763696029788516) (.cons (.expr (.meth (.loc 1717990261) 525822161250 (.cons (.loc 8030035183836554867) (.cons (.loc 112598731352420) .nil)))) .nil)) (.cons (.expr (.meth (.loc 1735222900) 7598815489333555552 (.cons (.loc 1717990261) (.cons (.loc 32763696029788516) .nil)))) .nil))) }
noncomputable def gZ:FI:={ params:=[1735222900,1717990261,32763696029788516],dfl:=[],body:=(.cons (.asg 112645993096803 (.attr (.loc 1735222900) 1717990261)) (.cons (.asgA (.loc 1735222900) 8030035183836554867 (.bin .add (.attr (.loc 1735222900) 8030035183836554867) (.int 1))) (.cons (.asgA (.loc 1735222900) 1717990261 (.loc 1717990261)) (.cons (.expr (.meth (.attr (.loc 1735222900) 6844525) 6645090 (.cons (.attr (.loc 1735222900) 8030035183836554867) (.cons (.attr (.loc 1735222900) 1818520181) (.cons (.loc 32763696029788516) .nil))))) (.cons (.for1 [126883592042095] (.call (.glb 111490731569268) (.cons (.attr (.loc 1735222900) 32763700141449848) .nil)) (.cons (.asg 452656980600 (.sub (.attr (.loc 1735222900) 32763700141449848) (.loc 126883592042095))) (.cons (.expr (.meth (.loc 452656980600) 6710900 (.cons (.attr (.loc 1735222900) 8030035183836554867) (.cons (.meth (.loc 1735222900) 478459360352 (.cons (.loc 452656980600) (.cons (.loc 32763696029788516) (.cons (.loc 112645993096803) .nil)))) .nil)))) .nil))) (.cons (.ite (.and (.cons (.cmp .isnt (.attr (.loc 1735222900) 1902536300) .none) (.cons (.cmp .gt (.call (.glb 7300717) (.cons (.attr (.attr (.loc 1735222900) 6844525) 1954050163) .nil)) (.attr (.loc 1735222900) 1902536300)) .nil))) (.cons (.expr (.meth (.loc 1735222900) 33042946247782500 .nil)) .nil) .nil) .nil)))))) }
noncomputable def mC:FI:={ params:=[1735222900,126883592042095,1769300593],dfl:=[],body:=(.cons (.asg 1936094326 (.attr (.meth (.loc 1735222900) 31367324937512564 (.cons (.loc 126883592042095) .nil)) 1936094326)) (.cons (.expr (.call (.glb 554461310576473324021359) (.cons (.attr (.loc 1735222900) 1717990261) (.cons (.call (.glb 1701209711) (.cons (.loc 1769300593) .nil)) (.cons (.loc 1936094326) (.cons (.str [114]) .nil)))))) (.cons (.ret (.meth (.attr (.loc 1735222900) 1717990261) 7627369 (.cons (.loc 1769300593) .nil))) .nil))) }
noncomputable def gD:FI:={ params:=[1735222900,126883592042095,1769300593],dfl:=[],body:=(.cons (.asg 1936094326 (.attr (.meth (.loc 1735222900) 31367324937512564 (.cons (.loc 126883592042095) .nil)) 1936094326)) (.cons (.expr (.call (.glb 554461310576473324021359) (.cons (.attr (.loc 1735222900) 1717990261) (.cons (.call (.glb 1701209711) (.cons (.loc 1769300593) .nil)) (.cons (.loc 1936094326) (.cons (.str [114]) .nil)))))) (.cons (.ret (.meth (.attr (.loc 1735222900) 1717990261) 8027230265299069284 (.cons (.loc 1769300593) .nil))) .nil))) }
noncomputable def jb:FI:={ params:=[1735222900,126883592042095,1769300593,1651860069,115948722807415,7306654329047250543,440039269997,128047628446323],dfl:=[(.str []),(.bool false),(.bool false),.none,.none],body:=(.cons (.ret (.meth (.loc 1735222900) 112628813619808 (.cons (.loc 126883592042095) (.cons (.tuple (.cons (.str [99,114,101,97,116,101]) (.cons (.loc 1769300593) (.cons (.loc 1651860069) (.cons (.loc 115948722807415) (.cons (.loc 7306654329047250543) (.cons (.loc 440039269997) (.cons (.loc 128047628446323) .nil)))))))) .nil)))) .nil) }
noncomputable def iY:FI:={ params:=[1735222900,126883592042095,1902540148],dfl:=[],body:=(.cons (.asgT [1717990261,32763696029788516,32777981243191138] (.meth (.loc 1735222900) 128030399100000 (.cons (.loc 126883592042095) (.cons (.list (.cons (.loc 1902540148) .nil)) (.cons (.bool false) .nil))))) (.cons (.expr (.meth (.loc 1735222900) 7598815489333555552 (.cons (.loc 1717990261) (.cons (.loc 32763696029788516) .nil)))) (.cons (.ret (.sub (.loc 32777981243191138) (.int 0))) .nil))) }
noncomputable def gO:FI:={ params:=[1735222900,126883592042095,500118746484],dfl:=[],body:=(.cons (.asgT [1717990261,32763696029788516,32777981243191138] (.meth (.loc 1735222900) 128030399100000 (.cons (.loc 126883592042095) (.cons (.loc 500118746484) (.cons (.bool true) .nil))))) (.cons (.ite (.cmp .gt (.call (.glb 7300717) (.cons (.loc 32763696029788516) .nil)) (.int 0)) (.cons (.expr (.meth (.loc 1735222900) 7598815489333555552 (.cons (.loc 1717990261) (.cons (.loc 32763696029788516) .nil)))) .nil) .nil) (.cons (.ret (.loc 32777981243191138)) .nil))) }
noncomputable def i6:FI:={ params:=[1735222900,126883592042095,500118746484,30789020241323636],dfl:=[],body:=(.cons (.asg 1936094326 (.attr (.meth (.loc 1735222900) 31367324937512564 (.cons (.loc 126883592042095) .nil)) 1936094326)) (.cons (.asg 1717990261 (.meth (.attr (.loc 1735222900) 1717990261) 2054254692 .nil)) (.cons (.asg 32763696029788516 (.list .nil)) (.cons (.asg 32777981243191138 (.list .nil)) (.cons (.for1 [30050] (.call (.glb 439838794355) (.cons (.call (.glb 7300717) (.cons (.loc 500118746484) .nil)) .nil)) (.cons (.try (.cons (.ite (.cmp .notin (.call (.glb 1718712949) (.cons (.sub (.loc 500118746484) (.loc 30050)) .nil)) (.list (.cons (.glb 1970563693) (.cons (.glb 439922816629) .nil)))) (.cons .bad .nil) .nil) (.cons (.asg 1902540148 (.call (.glb 439922816629) (.cons (.sub (.loc 500118746484) (.loc 30050)) .nil))) (.cons (.ite (.or (.cons (.cmp .lt (.call (.glb 7300717) (.cons (.loc 1902540148) .nil)) (.int 2)) (.cons (.cmp .notin (.sub (.loc 1902540148) (.int 0)) (.glb 362140816724)) .nil))) (.cons .bad .nil) .nil) (.cons (.expr (.meth (.loc 32777981243191138) 111529134485858 (.cons (.meth (.loc 1735222900) 487050277984 (.cons (.loc 126883592042095) (.cons (.loc 1936094326) (.cons (.loc 1717990261) (.cons (.loc 1902540148) (.cons (.loc 32763696029788516) .nil)))))) .nil))) .nil)))) 545146499936607190152532 495807853414 (.cons (.ite (.loc 30789020241323636) (.cons .bad .nil) .nil) (.cons .reraise .nil))) .nil)) (.cons (.ret (.tuple (.cons (.loc 1717990261) (.cons (.loc 32763696029788516) (.cons (.loc 32777981243191138) .nil))))) .nil)))))) }
noncomputable def jE:FI:={ params:=[1735222900,126883592042095,1936094326,1717990261,1902540148,32763696029788516],dfl:=[],body:=(.cons (.asgW [1702064248,1769300593] (.tuple (.cons (.sub (.loc 1902540148) (.int 0)) (.cons (.call (.glb 1701209711) (.cons (.sub (.loc 1902540148) (.int 1)) .nil)) .nil)))) (.cons (.asg 1970562675 (.call (.glb 1970563693) (.cons (.slice (.loc 1902540148) false (.int 2)) .nil))) (.cons (.ite (.cmp .gt (.call (.glb 7300717) (.cons (.loc 1970562675) .nil)) (.sub (.dict (.cons (.str [99,104,101,99,107]) (.cons (.int 1) (.cons (.str [99,114,101,97,116,101]) (.cons (.int 5) (.cons (.str [115,101,116]) (.cons (.int 2) (.cons (.str [100,101,108,101,116,101]) (.cons (.int 1) (.cons (.str [103,101,116]) (.cons (.int 0) .nil))))))))))) (.loc 1702064248))) (.cons .bad .nil) .nil) (.cons (.ite (.cmp .eq (.loc 1702064248) (.str [99,114,101,97,116,101])) (.cons (.asg 1970562675 (.bin .add (.loc 1970562675) (.slice (.list (.cons (.str []) (.cons (.bool false) (.cons (.bool false) (.cons .none (.cons .none .nil)))))) false (.call (.glb 7300717) (.cons (.loc 1970562675) .nil))))) (.cons (.ret (.meth (.loc 1735222900) 28839513110570080 (.cons (.loc 126883592042095) (.cons (.loc 1936094326) (.cons (.loc 1717990261) (.cons (.loc 1769300593) (.cons (.loc 1970562675) (.cons (.loc 32763696029788516) .nil)))))))) .nil)) .nil) (.cons (.ite (.cmp .eq (.loc 1702064248) (.str [103,101,116])) (.cons (.expr (.call (.glb 554461310576473324021359) (.cons (.loc 1717990261) (.cons (.loc 1769300593) (.cons (.loc 1936094326) (.cons (.str [114]) .nil)))))) (.cons (.ret (.attr (.meth (.loc 1717990261) 525923086182 (.cons (.loc 1769300593) .nil)) 1651860069)) .nil)) .nil) (.cons (.asg 31367324937447031 .none) (.cons (.ite (.and (.cons (.cmp .eq (.loc 1702064248) (.str [115,101,116])) (.cons (.cmp .gt (.call (.glb 7300717) (.cons (.loc 1970562675) .nil)) (.int 1)) .nil))) (.cons (.asg 31367324937447031 (.sub (.loc 1970562675) (.int 1))) .nil) .nil) (.cons (.ite (.and (.cons (.cmp .isin (.loc 1702064248) (.list (.cons (.str [99,104,101,99,107]) (.cons (.str [100,101,108,101,116,101]) .nil)))) (.cons (.cmp .gt (.call (.glb 7300717) (.cons (.loc 1970562675) .nil)) (.int 0)) .nil))) (.cons (.asg 31367324937447031 (.sub (.loc 1970562675) (.int 0))) .nil) .nil) (.cons (.expr (.call (.glb 554461310576473324021359) (.cons (.loc 1717990261) (.cons (.loc 1769300593) (.cons (.loc 1936094326) (.cons (.sub (.dict (.cons (.str [99,104,101,99,107]) (.cons (.str [114]) (.cons (.str [115,101,116]) (.cons (.str [119]) (.cons (.str [100,101,108,101,116,101]) (.cons (.str [100]) .nil))))))) (.loc 1702064248)) .nil)))))) (.cons (.asg 435661729895 (.call (.glb 8030035183986440032) (.cons (.loc 1717990261) (.cons (.loc 1769300593) (.cons (.loc 31367324937447031) .nil))))) (.cons (.ite (.cmp .eq (.loc 1702064248) (.str [115,101,116])) (.cons (.ite (.or (.cons (.cmp .eq (.call (.glb 7300717) (.cons (.loc 1970562675) .nil)) (.int 0)) (.cons (.cmp .isnt (.call (.glb 1718712949) (.cons (.sub (.loc 1970562675) (.int 0)) .nil)) (.glb 7566708)) .nil))) (.cons .bad .nil) .nil) (.cons (.expr (.meth (.loc 1735222900) 7365984 (.cons (.loc 1717990261) (.cons (.loc 32763696029788516) (.cons (.tuple (.cons (.str [115,101,116]) (.cons (.loc 1769300593) (.cons (.sub (.loc 1970562675) (.int 0)) .nil)))) .nil))))) (.cons (.ret (.bin .add (.loc 435661729895) (.int 1))) .nil))) .nil) (.cons (.ite (.cmp .eq (.loc 1702064248) (.str [100,101,108,101,116,101])) (.cons (.expr (.meth (.loc 1735222900) 7365984 (.cons (.loc 1717990261) (.cons (.loc 32763696029788516) (.cons (.tuple (.cons (.str [100,101,108,101,116,101]) (.cons (.loc 1769300593) .nil))) .nil))))) (.cons (.ret .none) .nil)) .nil) (.cons (.ret (.loc 435661729895)) .nil))))))))))))) }
noncomputable def ig:FI:={ params:=[1735222900,126883592042095,1936094326,1717990261,1769300593,1970562675,32763696029788516],dfl:=[],body:=(.cons (.asgT [1651860069,115948722807415,139509984824270207449393784,440039269997,128047628446323] (.loc 1970562675)) (.cons (.ite (.cmp .isnt (.call (.glb 1718712949) (.cons (.loc 1651860069) .nil)) (.glb 7566708)) (.cons .bad .nil) .nil) (.cons (.asg 440090518370 (.call (.glb 129121320657521) (.cons (.loc 1769300593) .nil))) (.cons (.expr (.call (.glb 554461310576473324021359) (.cons (.loc 1717990261) (.cons (.loc 440090518370) (.cons (.loc 1936094326) (.cons (.str [99]) .nil)))))) (.cons (.ite (.loc 139509984824270207449393784) (.cons (.asg 1769300593 (.call (.glb 7306654329047250543) (.cons (.loc 1769300593) (.cons (.attr (.meth (.loc 1717990261) 525923086182 (.cons (.loc 440090518370) .nil)) 32482276888965220) .nil)))) .nil) .nil) (.cons (.asg 495639820400 .none) (.cons (.ite (.loc 115948722807415) (.cons (.asg 495639820400 (.loc 126883592042095)) .nil) .nil) (.cons (.ite (.cmp .isnt (.loc 440039269997) .none) (.cons (.expr (.meth (.loc 1735222900) 440039269997 (.cons (.loc 440039269997) .nil))) .nil) .nil) (.cons (.asg 478460471912 (.tuple (.cons (.loc 1651860069) (.cons (.loc 495639820400) (.cons (.loc 440039269997) (.cons (.call (.glb 140789856385873457589937775) (.cons (.loc 128047628446323) .nil)) (.cons (.call (.glb 1836085347) (.cons (.loc 139509984824270207449393784) .nil)) .nil))))))) (.cons (.expr (.meth (.loc 1735222900) 7365984 (.cons (.loc 1717990261) (.cons (.loc 32763696029788516) (.cons (.tuple (.cons (.str [99,114,101,97,116,101]) (.cons (.loc 1769300593) (.cons (.loc 478460471912) .nil)))) .nil))))) (.cons (.ret (.loc 1769300593)) .nil))))))))))) }
noncomputable def lS:FI:={ params:=[1735222900,1717990261,32763696029788516,112598731352420],dfl:=[],body:=(.cons (.expr (.meth (.loc 1717990261) 525822161250 (.cons (.bin .add (.attr (.loc 1735222900) 8030035183836554867) (.int 1)) (.cons (.loc 112598731352420) .nil)))) (.cons (.expr (.meth (.loc 32763696029788516) 111529134485858 (.cons (.loc 112598731352420) .nil))) .nil)) }
noncomputable def jF:FI:={ params:=[1735222900],dfl:=[],body:=(.cons (.ret (.meth (.attr (.loc 1735222900) 6844525) 478526204002 .nil)) .nil) }
noncomputable def iS:FI:={ params:=[1735222900],dfl:=[],body:=(.cons (.asg 435661729895 (.list .nil)) (.cons (.for1 [1769300593] (.call (.glb 111490731569268) (.cons (.attr (.attr (.loc 1735222900) 1717990261) 32763704688078694) .nil)) (.cons (.asg 525923086182 (.sub (.attr (.attr (.loc 1735222900) 1717990261) 32763704688078694) (.loc 1769300593))) (.cons (.ite (.and (.cons (.cmp .isnt (.attr (.loc 525923086182) 495639820400) .none) (.cons (.cmp .notin (.attr (.loc 525923086182) 495639820400) (.attr (.loc 1735222900) 8390048233337153140)) .nil))) (.cons (.expr (.meth (.loc 435661729895) 111529134485858 (.cons (.tuple (.cons (.str [111,119,110,101,114,32,105,115,32,111,118,101,114]) (.cons (.loc 1769300593) .nil))) .nil))) .nil) .nil) (.cons (.ite (.and (.cons (.cmp .isnt (.attr (.loc 525923086182) 440039269997) .none) (.cons (.cmp .notin (.attr (.loc 525923086182) 440039269997) (.attr (.loc 1735222900) 127983388092013)) .nil))) (.cons (.expr (.meth (.loc 435661729895) 111529134485858 (.cons (.tuple (.cons (.str [108,101,97,115,101,32,105,115,32,111,118,101,114]) (.cons (.loc 1769300593) .nil))) .nil))) .nil) .nil) .nil)))) (.cons (.ite (.cmp .ne (.meth (.meth (.loc 1735222900) 478526204002 .nil) 1954050163 .nil) (.meth (.attr (.loc 1735222900) 1717990261) 1954050163 .nil)) (.cons (.expr (.meth (.loc 435661729895) 111529134485858 (.cons (.tuple (.cons (.str [117,110,108,105,107,101,32,105,116,115,32,108,111,103]) (.cons (.attr (.loc 1735222900) 8030035183836554867) .nil))) .nil))) .nil) .nil) (.cons (.ret (.loc 435661729895)) .nil)))) }
noncomputable def on:FI:={ params:=[1717990261,1769300593,31367324937447031],dfl:=[],body:=(.cons (.asg 435661729895 (.neg (.int 1))) (.cons (.ite (.meth (.loc 1717990261) 7627369 (.cons (.loc 1769300593) .nil)) (.cons (.asg 435661729895 (.attr (.meth (.loc 1717990261) 525923086182 (.cons (.loc 1769300593) .nil)) 31367324937447031)) .nil) .nil) (.cons (.ite (.and (.cons (.cmp .isnt (.loc 31367324937447031) .none) (.cons (.cmp .ne (.loc 31367324937447031) (.loc 435661729895)) .nil))) (.cons (.raise (.call (.glb 8459003018227970116) (.cons (.str [97,110,111,116,104,101,114,32,118,101,114,115,105,111,110]) (.cons (.loc 1769300593) .nil)))) .nil) .nil) (.cons (.ite (.and (.cons (.cmp .eq (.loc 435661729895) (.neg (.int 1))) (.cons (.cmp .is (.loc 31367324937447031) .none) .nil))) (.cons (.raise (.call (.glb 545146499936607190152532) (.cons (.str [110,111,32,101,110,116,114,121]) (.cons (.loc 1769300593) .nil)))) .nil) .nil) (.cons (.ret (.loc 435661729895)) .nil))))) }
noncomputable def wM:FI:={ params:=[440023414132,126883592042095,1769300593],dfl:=[],body:=(.cons (.ite (.and (.cons (.cmp .ne (.loc 1769300593) (.str [47])) (.cons (.not (.meth (.loc 440023414132) 7627369 (.cons (.loc 126883592042095) (.cons (.loc 1769300593) .nil)))) .nil))) (.cons (.expr (.call (.glb 1717920366) (.cons (.loc 440023414132) (.cons (.loc 126883592042095) (.cons (.call (.glb 129121320657521) (.cons (.loc 1769300593) .nil)) .nil))))) (.cons (.expr (.meth (.loc 440023414132) 112654348088164 (.cons (.loc 126883592042095) (.cons (.loc 1769300593) .nil)))) .nil)) .nil) (.cons (.ret (.loc 1769300593)) .nil)) }
noncomputable def fP:FI:={ params:=[1735222900,440023414132,1769300593,504381206628],dfl:=[],body:=(.cons (.asgA (.loc 1735222900) 440023414132 (.loc 440023414132)) (.cons (.asgA (.loc 1735222900) 1769300593 (.loc 1769300593)) (.cons (.asgA (.loc 1735222900) 504381206628 (.call (.glb 549793996097647679006319) (.cons (.loc 504381206628) .nil))) .nil))) }
noncomputable def ie:FI:={ params:=[1735222900],dfl:=[],body:=(.cons (.ret (.call (.glb 1869246571) (.cons (.attr (.loc 1735222900) 1769300593) (.cons (.str [111,112,101,110]) .nil)))) .nil) }
noncomputable def gU:FI:={ params:=[1735222900,126883592042095],dfl:=[],body:=(.cons (.ite (.not (.meth (.attr (.loc 1735222900) 440023414132) 7627369 (.cons (.loc 126883592042095) (.cons (.attr (.loc 1735222900) 1769300593) .nil)))) (.cons (.ret (.list .nil)) .nil) .nil) (.cons (.asg 499934716527 (.listc (.loc 1718510191) [1718510191] (.meth (.attr (.loc 1735222900) 440023414132) 8027230265299069284 (.cons (.loc 126883592042095) (.cons (.attr (.loc 1735222900) 1769300593) .nil))) (.cons (.meth (.loc 1718510191) 498014421767949786445172 (.cons (.str [105,110,45]) .nil)) .nil))) (.cons (.asgE 128038988642416 (.attr (.meth (.attr (.attr (.loc 1735222900) 440023414132) 1717990261) 525923086182 (.cons (.call (.glb 1869246571) (.cons (.attr (.loc 1735222900) 1769300593) (.cons (.loc 1718510191) .nil))) .nil)) 495639820400) 1718510191 (.loc 499934716527) .nil) (.cons (.ret (.call (.glb 111490731569268) (.cons (.listc (.loc 6713200) [6713200] (.loc 128038988642416) (.cons (.and (.cons (.cmp .isnt (.loc 6713200) .none) (.cons (.cmp .isin (.bin .add (.str [105,110,45]) (.call (.glb 7566708) (.cons (.loc 6713200) .nil))) (.loc 499934716527)) .nil))) .nil)) .nil))) .nil)))) }
noncomputable def ij:FI:={ params:=[1735222900,126883592042095],dfl:=[],body:=(.cons (.expr (.call (.glb 1717920366) (.cons (.attr (.loc 1735222900) 440023414132) (.cons (.loc 126883592042095) (.cons (.attr (.loc 1735222900) 1769300593) .nil))))) (.cons (.asg 1718577774 (.call (.glb 1869246571) (.cons (.attr (.loc 1735222900) 1769300593) (.cons (.bin .add (.str [105,110,45]) (.call (.glb 7566708) (.cons (.loc 126883592042095) .nil))) .nil)))) (.cons (.ite (.meth (.attr (.loc 1735222900) 440023414132) 7627369 (.cons (.loc 126883592042095) (.cons (.loc 1718577774) .nil))) (.cons (.ret (.meth (.loc 1735222900) 31356359817589866 (.cons (.loc 126883592042095) .nil))) .nil) .nil) (.cons (.asg 500118746484 (.list (.cons (.tuple (.cons (.str [99,114,101,97,116,101]) (.cons (.loc 1718577774) (.cons (.str []) (.cons (.bool true) .nil))))) .nil))) (.cons (.ite (.not (.meth (.loc 1735222900) 31356359817589866 (.cons (.loc 126883592042095) .nil))) (.cons (.ite (.meth (.attr (.loc 1735222900) 440023414132) 7627369 (.cons (.loc 126883592042095) (.cons (.meth (.loc 1735222900) 465792298592 .nil) .nil))) (.cons (.expr (.meth (.loc 500118746484) 111529134485858 (.cons (.tuple (.cons (.str [100,101,108,101,116,101]) (.cons (.meth (.loc 1735222900) 465792298592 .nil) .nil))) .nil))) .nil) .nil) (.cons (.ite (.cmp .ge (.bin .add (.call (.glb 7300717) (.cons (.meth (.loc 1735222900) 112585763745642 (.cons (.loc 126883592042095) .nil)) .nil)) (.int 1)) (.attr (.loc 1735222900) 504381206628)) (.cons (.expr (.meth (.loc 500118746484) 111529134485858 (.cons (.tuple (.cons (.str [99,114,101,97,116,101]) (.cons (.meth (.loc 1735222900) 465792298592 .nil) .nil))) .nil))) .nil) .nil) .nil)) .nil) (.cons (.expr (.meth (.attr (.loc 1735222900) 440023414132) 8458994252333085557 (.cons (.loc 126883592042095) (.cons (.loc 500118746484) .nil)))) (.cons (.ret (.meth (.loc 1735222900) 31356359817589866 (.cons (.loc 126883592042095) .nil))) .nil))))))) }
noncomputable def gw:FI:={ params:=[1735222900,126883592042095],dfl:=[],body:=(.cons (.ret (.and (.cons (.cmp .gt (.call (.glb 7300717) (.cons (.meth (.loc 1735222900) 112585763745642 (.cons (.loc 126883592042095) .nil)) .nil)) (.int 0)) (.cons (.meth (.attr (.loc 1735222900) 440023414132) 7627369 (.cons (.loc 126883592042095) (.cons (.meth (.loc 1735222900) 465792298592 .nil) .nil))) .nil)))) .nil) }
noncomputable def iq:FI:={ params:=[1735222900,126883592042095],dfl:=[],body:=(.cons (.asg 1718577774 (.call (.glb 1869246571) (.cons (.attr (.loc 1735222900) 1769300593) (.cons (.bin .add (.str [105,110,45]) (.call (.glb 7566708) (.cons (.loc 126883592042095) .nil))) .nil)))) (.cons (.ite (.not (.meth (.attr (.loc 1735222900) 440023414132) 7627369 (.cons (.loc 126883592042095) (.cons (.loc 1718577774) .nil)))) (.cons (.raise (.call (.glb 545146499936607190152532) (.cons (.str [110,111,116,32,105,110,115,105,100,101]) (.cons (.loc 126883592042095) .nil)))) .nil) .nil) (.cons (.asg 500118746484 (.list (.cons (.tuple (.cons (.str [100,101,108,101,116,101]) (.cons (.loc 1718577774) .nil))) .nil))) (.cons (.ite (.and (.cons (.cmp .eq (.meth (.loc 1735222900) 112585763745642 (.cons (.loc 126883592042095) .nil)) (.list (.cons (.loc 126883592042095) .nil))) (.cons (.meth (.loc 1735222900) 31356359817589866 (.cons (.loc 126883592042095) .nil)) .nil))) (.cons (.expr (.meth (.loc 500118746484) 111529134485858 (.cons (.tuple (.cons (.str [100,101,108,101,116,101]) (.cons (.meth (.loc 1735222900) 465792298592 .nil) .nil))) .nil))) .nil) .nil) (.cons (.expr (.meth (.attr (.loc 1735222900) 440023414132) 8458994252333085557 (.cons (.loc 126883592042095) (.cons (.loc 500118746484) .nil)))) .nil))))) }
noncomputable def fS:FI:={ params:=[1735222900,126883592042095],dfl:=[],body:=(.cons (.ret (.cmp .eq (.call (.glb 7300717) (.cons (.meth (.loc 1735222900) 112585763745642 (.cons (.loc 126883592042095) .nil)) .nil)) (.int 0))) .nil) }
noncomputable def xG:FI:={ params:=[129129977701492],dfl:=[],body:=(.cons (.ite (.cmp .lt (.call (.glb 7300717) (.cons (.loc 129129977701492) .nil)) (.int 11)) (.cons (.ret (.bool true)) .nil) .nil) (.cons (.asg 440023414132 (.call (.glb 440023414100) .nil)) (.cons (.asg 6716006 (.meth (.loc 440023414132) 1868984688 (.cons (.str [101,121,101]) (.cons (.int 90) .nil)))) (.cons (.asgC 7367032 (.meth (.loc 440023414132) 1868984688 (.cons (.bin .add (.str [117]) (.call (.glb 7566708) (.cons (.loc 108) .nil))) (.cons (.int 90) .nil))) [108] (.call (.glb 439838794355) (.cons (.int 3) .nil)) .nil) (.cons (.asg 504381206628 (.bin .add (.int 1) (.bin .mod (.sub (.loc 129129977701492) (.int 0)) (.int 3)))) (.cons (.asg 32482229711233635 (.call (.glb 32482229711233603) (.cons (.loc 440023414132) (.cons (.str [47,98,97,114,115,47,111,110,101]) (.cons (.loc 504381206628) .nil))))) (.cons (.asg 112585763745642 (.list .nil)) (.cons (.asg 111490630054256 (.bool false)) (.cons (.for1 [108] (.call (.glb 439838794355) (.cons (.bin .mod (.sub (.loc 129129977701492) (.int 1)) (.int 9)) .nil)) (.cons (.asg 440073544311 (.bin .mod (.sub (.loc 129129977701492) (.bin .add (.int 2) (.loc 108))) (.int 36))) (.cons (.asg 126883592042095 (.sub (.loc 7367032) (.bin .mod (.loc 440073544311) (.int 3)))) (.cons (.asg 7693410 (.bin .mod (.bin .fdiv (.loc 440073544311) (.int 3)) (.int 4))) (.cons (.ite (.cmp .isin (.loc 126883592042095) (.attr (.loc 440023414132) 8390048233337153140)) (.cons (.asg 435661729895 (.str [])) (.cons (.try (.cons (.ite (.cmp .lt (.loc 7693410) (.int 2)) (.cons (.expr (.meth (.loc 32482229711233635) 495640211302 (.cons (.loc 126883592042095) .nil))) .nil) (.cons (.ite (.cmp .eq (.loc 7693410) (.int 2)) (.cons (.expr (.meth (.loc 32482229711233635) 440089601645 (.cons (.loc 126883592042095) .nil))) .nil) (.cons (.ite (.cmp .eq (.bin .fdiv (.loc 440073544311) (.int 12)) (.int 0)) (.cons (.expr (.meth (.loc 440023414132) 440040189284 (.cons (.loc 126883592042095) .nil))) .nil) .nil) .nil)) .nil)) .nil) 545146499936607190152532 495807853414 (.cons (.asg 435661729895 (.attr (.loc 495807853414) 1702064248)) .nil)) (.cons (.ite (.and (.cons (.cmp .lt (.loc 7693410) (.int 2)) (.cons (.cmp .notin (.loc 126883592042095) (.loc 112585763745642)) .nil))) (.cons (.expr (.meth (.loc 112585763745642) 111529134485858 (.cons (.loc 126883592042095) .nil))) (.cons (.asg 111490630054256 (.or (.cons (.loc 111490630054256) (.cons (.cmp .ge (.call (.glb 7300717) (.cons (.loc 112585763745642) .nil)) (.loc 504381206628)) .nil)))) .nil)) .nil) (.cons (.ite (.cmp .eq (.loc 7693410) (.int 2)) (.cons (.ite (.cmp .ne (.cmp .eq (.loc 435661729895) (.str [110,111,116,32,105,110,115,105,100,101])) (.cmp .notin (.loc 126883592042095) (.loc 112585763745642))) (.cons (.ret (.bool false)) .nil) .nil) .nil) .nil) (.cons (.ite (.or (.cons (.cmp .eq (.loc 7693410) (.int 2)) (.cons (.and (.cons (.cmp .eq (.loc 7693410) (.int 3)) (.cons (.cmp .eq (.bin .fdiv (.loc 440073544311) (.int 12)) (.int 0)) .nil))) .nil))) (.cons (.asgC 112585763745642 (.loc 6713200) [6713200] (.loc 112585763745642) (.cons (.cmp .ne (.loc 6713200) (.loc 126883592042095)) .nil)) .nil) .nil) (.cons (.asg 111490630054256 (.and (.cons (.loc 111490630054256) (.cons (.cmp .ne (.loc 112585763745642) (.list .nil)) .nil)))) .nil)))))) .nil) (.cons (.ite (.cmp .ne (.tuple (.cons (.meth (.loc 32482229711233635) 112585763745642 (.cons (.loc 6716006) .nil)) (.cons (.meth (.loc 32482229711233635) 31356359817589866 (.cons (.loc 6716006) .nil)) (.cons (.meth (.loc 32482229711233635) 8314320482100868202 (.cons (.loc 6716006) .nil)) .nil)))) (.tuple (.cons (.call (.glb 111490731569268) (.cons (.loc 112585763745642) .nil)) (.cons (.loc 111490630054256) (.cons (.cmp .eq (.loc 112585763745642) (.list .nil)) .nil))))) (.cons (.ret (.bool false)) .nil) .nil) .nil)))))) (.cons (.ret (.cmp .eq (.meth (.loc 440023414132) 128047696470631 .nil) (.list .nil))) .nil)))))))))) }
noncomputable def pE:CI:={ meths:=[(6944679725401530464,152)],flds:=[435727525481,126883592042095,33062797402073717,1936094326] }
noncomputable def tB:CI:={ meths:=[(6944679725401530464,196),(7893107,203),(2054254692,210)],flds:=[28541571379128676,32482276888965220,1651860069,1952803436,440039269997,1717920366,495639820400,128047628446323,31367324937447031] }
noncomputable def v7:CI:={ meths:=[(6944679725401530464,231),(7627369,238),(525923086182,245),(8027230265299069284,250),(2054254692,260),(1954050163,265),(525822161250,272),(28839513110570080,279),(28839530407028064,286)],flds:=[32763704688078694] }
noncomputable def nV:CI:={ meths:=[(6944679725401530464,307)],flds:=[8030035183836554867,1717990261] }
noncomputable def xR:CI:={ meths:=[(6944679725401530464,328),(6645090,335),(1970561645,342),(478526204002,366)],flds:=[1954050163,8462379648668561268,504447006068] }
noncomputable def ue:CI:={ meths:=[(6944679725401530464,472),(32482199562776416,479),(1868984688,487),(31367324937512564,494),(440040189284,508),(1701799520,513),(29682873038698336,518),(33049594806953056,566),(7598815489333555552,573),(7627369,601),(8027230265299069284,608),(112654348088164,616),(112628813619808,639),(8458994252333085557,653),(128030399100000,660),(487050277984,667),(28839513110570080,674),(7365984,681),(478526204002,717),(128047696470631,724)],flds:=[504381206628,1902536300,127983388092013,6844525,8030035183836554867,8390048233337153140,1818520181,1717990261,32763700141449848] }
noncomputable def pZ:CI:={ meths:=[(6944679725401530464,759),(465792298592,766),(112585763745642,771),(495640211302,778),(31356359817589866,785),(440089601645,792),(8314320482100868202,799)],flds:=[504381206628,1769300593,440023414132] }
noncomputable def fns:List (Nat × FI):=[(103,wL),(110,sH),(117,we),(124,ww),(138,og),(152,fN),(173,lE),(180,mV),(196,gX),(203,lG),(210,lF),(231,iw),(238,nN),(245,kA),(250,io),(260,mZ),(265,lM),(272,lj),(279,js),(286,jk),(307,eZ),(328,iN),(335,pK),(342,ny),(366,mQ),(378,jz),(385,lH),(392,yb),(399,kX),(472,gE),(479,ic),(487,bI),(494,ii),(508,jy),(513,kE),(518,ip),(566,im),(573,gZ),(601,mC),(608,gD),(616,jb),(639,iY),(653,gO),(660,i6),(667,jE),(674,ig),(681,lS),(717,jF),(724,iS),(738,on),(745,wM),(759,fP),(766,ie),(771,gU),(778,ij),(785,gw),(792,iq),(799,fS),(811,xG)]
noncomputable def yi:List (Nat × CI):=[(162,pE),(213,tB),(289,v7),(310,nV),(369,xR),(727,ue),(802,pZ)]
noncomputable def yv:List (Nat × AV):=[(469986605152,(.obj 21)),(545146499936607190152532,(.obj 48)),(111490546755141,(.obj 61)),(8459003018227970116,(.obj 73)),(112628813098838,(.obj 94)),(362107390548,(.str [97,98,99,100,101,102,103,104,105,106,107,108,109,110,111,112,113,114,115,116,117,118,119,120,121,122,48,49,50,51,52,53,54,55,56,57,45,95,46])),(24018033858007117,(.int (40))),(1701209711,(.obj 103)),(129121320657521,(.obj 110)),(1970561645,(.obj 117)),(1869246571,(.obj 124)),(8678556768464303210,(.obj 131)),(7306654329047250543,(.obj 138)),(31367324937512532,(.obj 162)),(549793996097647679006319,(.obj 173)),(2128758224322155669103,(.obj 180)),(1330008400,(.obj 182)),(525923086150,(.obj 213)),(1717990229,(.obj 289)),(8462379648668561236,(.obj 310)),(6844493,(.obj 369)),(23735459588163149,(.str [97,99,100,114,119])),(140789856385873457589937775,(.obj 378)),(1908112239769724414579,(.obj 385)),(8020590,(.obj 392)),(554461310576473324021359,(.obj 399)),(361940077132,(.obj 400)),(1431588942,(.int (20))),(452656980568,(.obj 452)),(362140816724,(.obj 457)),(440023414100,(.obj 727)),(8030035183986440032,(.obj 738)),(1717920366,(.obj 745)),(32482229711233603,(.obj 802)),(7889517,(.obj 811)),(7300717,(.bi .len)),(439838794355,(.typ .range)),(111490731569268,(.bi .sorted)),(1718712949,(.typ .type)),(7566708,(.typ .str)),(7696234,(.typ .int)),(439922816629,(.typ .tuple)),(1970563693,(.typ .list)),(1969515109,(.typ .dict)),(7955054,(.bi .max)),(1836085347,(.typ .bool))]
noncomputable def yx:List (Nat × List AV):=[(181,[(.str [42]),(.str [97,99,100,114,119])]),(182,[(.obj 181)]),(400,[(.str [101,110,116,114,121]),(.str [99,104,105,108,100,114,101,110]),(.str [98,101,108,111,119])]),(457,[(.str [99,104,101,99,107]),(.str [99,114,101,97,116,101]),(.str [115,101,116]),(.str [100,101,108,101,116,101]),(.str [103,101,116])])]
noncomputable def G:Tab:={ fns:=fns,cls:=yi,glb:=yv,top:=yx }
noncomputable abbrev vc:Nat:=811
theorem tC {c:Cx} (hG:c.G=G) {C:Nat} {ci:CI} (h:lk G.cls C=some ci):lk c.G.cls C=some ci:=by rw [hG]; exact h
theorem tF {c:Cx} (hG:c.G=G) {C:Nat} {ci:FI} (h:lk G.fns C=some ci):lk c.G.fns C=some ci:=by rw [hG]; exact h
theorem tG {c:Cx} (hG:c.G=G) {C:Nat} {ci:AV} (h:lk G.glb C=some ci):lk c.G.glb C=some ci:=by rw [hG]; exact h
theorem tA {c:Cx} (hG:c.G=G) {C a:Nat} (h:fld G C a=true):fld c.G C a=true:=by rw [hG]; exact h
theorem tM {c:Cx} (hG:c.G=G) {C m f:Nat} (h:mth G C m=some f):mth c.G C m=some f:=by rw [hG]; exact h
structure En where
 data:AV
 ver:Int
 kids:Int
 own:AV
 lea:AV
 rig:AV
 cnt:Int
 made:Int
 chg:Int
noncomputable abbrev En.vs (e:En):List AV:=[e.data,.int e.ver,.int e.kids,e.own,e.lea,e.rig,.int e.cnt,.int e.made,.int e.chg]
noncomputable abbrev En.ob (e:En):AO:=.inst 213 [(1651860069,e.data),(31367324937447031,.int e.ver),(1952803436,.int e.kids),(495639820400,e.own),(440039269997,e.lea),(128047628446323,e.rig),(32482276888965220,.int e.cnt),(1717920366,.int e.made),(28541571379128676,.int e.chg)]
section
variable {c:Cx} (ok:Ok c) (hG:c.G=G) {d:Nat} {T:Hp}
include ok hG
theorem fL {dt ow le ri:AV} {ma:Int} (hn:1≤T.n):CaP c (aq T (.inst 213 [])) 196 [.ref T.n,dt,ow,le,ri,.int ma] (d+1) fun u T'=>u=.none∧T'.get T.n=some (En.ob ⟨dt,0,0,ow,le,ri,0,ma,ma⟩)∧Upd T.n All T T'∧T'.n=T.n+1:=by
 refine aH ok (l:=[(1735222900,_),(1651860069,_),(495639820400,_),(440039269997,_),(128047628446323,_),(8030035183836554867,_)]) (tF hG rfl) rfl fun Qz hQ=>?_
 refine be ok (aj rfl) rfl (by exact (ag _ _)) (by exact tA hG rfl) (by exact lb rfl) (by first|assumption|exact Nat.le_add_left 1 _|exact lb rfl) ?_
 refine be ok aD rfl (by exact ac (ag _ _)) (by exact tA hG rfl) (by exact lb rfl) (by first|assumption|exact Nat.le_add_left 1 _|exact lb rfl) ?_
 refine be ok aD rfl (by exact ac (ac (ag _ _))) (by exact tA hG rfl) (by exact lb rfl) (by first|assumption|exact Nat.le_add_left 1 _|exact lb rfl) ?_
 refine be ok (aj rfl) rfl (by exact ac (ac (ac (ag _ _)))) (by exact tA hG rfl) (by exact lb rfl) (by first|assumption|exact Nat.le_add_left 1 _|exact lb rfl) ?_
 refine be ok (aj rfl) rfl (by exact ac (ac (ac (ac (ag _ _))))) (by exact tA hG rfl) (by exact lb rfl) (by first|assumption|exact Nat.le_add_left 1 _|exact lb rfl) ?_
 refine be ok (aj rfl) rfl (by exact ac (ac (ac (ac (ac (ag _ _)))))) (by exact tA hG rfl) (by exact lb rfl) (by first|assumption|exact Nat.le_add_left 1 _|exact lb rfl) ?_
 refine be ok aD rfl (by exact ac (ac (ac (ac (ac (ac (ag _ _))))))) (by exact tA hG rfl) (by exact lb rfl) (by first|assumption|exact Nat.le_add_left 1 _|exact lb rfl) ?_
 refine be ok (aj rfl) rfl (by exact ac (ac (ac (ac (ac (ac (ac (ag _ _)))))))) (by exact tA hG rfl) (by exact lb rfl) (by first|assumption|exact Nat.le_add_left 1 _|exact lb rfl) ?_
 refine be ok (aj rfl) rfl (by with_reducible repeat' first|assumption|exact ag _ _|apply ac|apply af|apply an|with_unfolding_all rfl) (by exact tA hG rfl) (by exact lb rfl) (by first|assumption|exact Nat.le_add_left 1 _|exact lb rfl) ?_
 apply ax
 apply hQ
 exact ⟨rfl,ac (ac (ac (ac (ac (ac (ac (ac (ac (ag _ _))))))))),((((((((Upd.refl.new.put (Nat.le_refl _)).put (Nat.le_refl _)).put (Nat.le_refl _)).put (Nat.le_refl _)).put (Nat.le_refl _)).put (Nat.le_refl _)).put (Nat.le_refl _)).put (Nat.le_refl _)).put (Nat.le_refl _),rfl⟩
theorem oA {e:En} {r:Nat} (hn:1≤T.n) (h:T.get r=some e.ob):CaP c T 210 [.ref r] (d+3) fun u T'=>u=.ref T.n∧T'.get T.n=some e.ob∧Upd T.n All T T'∧T'.n=T.n+1:=by
 refine aH ok (l:=[(1735222900,_)]) (tF hG rfl) rfl fun Qz hQ=>?_
 refine zEEALAA (fL ok hG (d:=d) (dt:=e.data) (ow:=e.own) (le:=e.lea) (ri:=e.rig) (ma:=e.made) hn) fun T1 h1 g1 u1 n1=>?_
 have ne:=Nat.ne_of_lt (aP h)
 have p:=aP g1
 have g0:=u1.get (r:=r) trivial h
 refine aR (kj ok (tG hG rfl) (tC hG rfl) rfl (ai (aO ok rfl (by trivial) (by exact tA hG rfl) (by exact rfl)) (ai (aO ok rfl (by trivial) (by exact tA hG rfl) (by exact rfl)) (ai (aO ok rfl (by trivial) (by exact tA hG rfl) (by exact rfl)) (ai (aO ok rfl (by trivial) (by exact tA hG rfl) (by exact rfl)) (ai (aO ok rfl (by trivial) (by exact tA hG rfl) (by exact rfl)) ae))))) (h1)) ?_
 refine be ok (aO ok rfl (by trivial) (by exact tA hG rfl) (by exact rfl)) rfl (by trivial) (by exact tA hG rfl) (by exact lb rfl) (by first|assumption|exact Nat.le_add_left 1 _|exact lb rfl) ?_
 refine be ok (aO ok rfl (by exact cb ‹_› ‹_›) (by exact tA hG rfl) (by exact rfl)) rfl (by exact ac ‹_›) (by exact tA hG rfl) (by exact lb rfl) (by first|assumption|exact Nat.le_add_left 1 _|exact lb rfl) ?_
 refine be ok (aO ok rfl (by exact cb ‹_› (cb ‹_› ‹_›)) (by exact tA hG rfl) (by exact rfl)) rfl (by exact ac (ac ‹_›)) (by exact tA hG rfl) (by exact lb rfl) (by first|assumption|exact Nat.le_add_left 1 _|exact lb rfl) ?_
 refine be ok (aO ok rfl (by exact cb ‹_› (cb ‹_› (cb ‹_› ‹_›))) (by exact tA hG rfl) (by exact rfl)) rfl (by exact ac (ac (ac ‹_›))) (by exact tA hG rfl) (by exact lb rfl) (by first|assumption|exact Nat.le_add_left 1 _|exact lb rfl) ?_
 refine aK (aj rfl) ?_
 apply hQ
 exact ⟨rfl,ac (ac (ac (ac g1))),(((u1.put (Nat.le_refl _)).put (Nat.le_refl _)).put (Nat.le_refl _)).put (Nat.le_refl _),n1⟩
end
noncomputable abbrev Es:=List (List Nat × En)
structure Nd where
 p:List Nat
 r:Nat
 e:En
noncomputable abbrev Nd.dc (x:Nd):AV × AV:=(.str x.p,.ref x.r)
noncomputable abbrev Nd.pe (x:Nd):List Nat × En:=(x.p,x.e)
noncomputable abbrev pR (dr:Nat):AO:=.inst 289 [(32763704688078694,.ref dr)]
structure cg (T:Hp) (lo t dr ep:Nat) (xs:List Nd):Prop where
 ht:T.get t=some (pR dr)
 hd:T.get dr=some (.dict (xs.map Nd.dc) ep)
 he:∀ x∈xs,T.get x.r=some x.e.ob
 lt:lo≤t
 ld:lo≤dr
 le:∀ x∈xs,lo≤x.r
 nr:(xs.map Nd.r).Nodup
 np:(xs.map Nd.p).Nodup
 sz:xs.length<60
noncomputable def aB (T:Hp) (lo t:Nat) (es:Es):Prop:=∃ dr ep xs,cg T lo t dr ep xs∧xs.map Nd.pe=es
theorem qA {p:List Nat} {xs:List Nd} (h:p∉xs.map Nd.p):dlk (.str p) (xs.map Nd.dc)=none:=by
 induction xs with
 | nil=>rfl
 | cons x xs ih=>
  show (if decide (x.p=p)=true then _ else _)=_
  have n:x.p≠p:=fun e=>h (e▸.head _)
  rw [if_neg fun e=>n (of_decide_eq_true e)]
  exact ih fun m=>h (.tail _ m)
theorem dY {x:Nd} {xs:List Nd} (m:x∈xs) (nd:(xs.map Nd.p).Nodup):dlk (.str x.p) (xs.map Nd.dc)=some (.ref x.r):=by
 induction xs with
 | nil=>cases m
 | cons y xs ih=>
  show (if decide (y.p=x.p)=true then _ else _)=_
  have nd:=List.nodup_cons.mp nd
  cases m with
  | head=>rw [if_pos (decide_eq_true rfl)]
  | tail _ m=>
   have n:y.p≠x.p:=fun e=>nd.1 (e▸List.mem_map_of_mem m)
   rw [if_neg fun e=>n (of_decide_eq_true e)]
   exact ih m nd.2
theorem cR {p:List Nat} {xs:List Nd}:kOk (.str p) (xs.map Nd.dc)=true:=by cases xs <;> rfl
theorem pc {p:List Nat} {r:Nat} {xs:List Nd} (e:En) (h:p∉xs.map Nd.p):dpt (.str p) (.ref r) (xs.map Nd.dc)=(xs ++ [Nd.mk p r e]).map Nd.dc:=by
 induction xs with
 | nil=>rfl
 | cons x xs ih=>
  show (if decide (x.p=p)=true then _ else _)=_
  have n:x.p≠p:=fun e=>h (e▸.head _)
  rw [if_neg fun e=>n (of_decide_eq_true e),ih fun m=>h (.tail _ m)]
  rfl
theorem sC {p:List Nat} {xs:List Nd} (h:p∉xs.map Nd.p) (ep:Nat):epS (.str p) (xs.map Nd.dc) ep=ep+1:=by
 unfold epS; rw [qA h]
theorem Nd.sameR {xs:List Nd} (nd:(xs.map Nd.r).Nodup) {x y:Nd} (hx:x∈xs) (hy:y∈xs) (e:x.r=y.r):x=y:=by
 induction xs with
 | nil=>cases hx
 | cons z xs ih=>
  have nd:=List.nodup_cons.mp nd
  cases hx with
  | head=>cases hy with
   | head=>rfl
   | tail _ m=>exact absurd (e▸List.mem_map_of_mem m) nd.1
  | tail _ m=>cases hy with
   | head=>exact absurd (e▸List.mem_map_of_mem m) nd.1
   | tail _ m2=>exact ih nd.2 m m2
theorem cg.upd {T T':Hp} {P:Nat→AO→Prop} {lo t dr ep:Nat} {xs:List Nd} (x:cg T lo t dr ep xs) (u:Upd T.n P T T') (h1:∀ r dr,P r (pR dr)) (h2:∀ r es ep,P r (.dict es ep)) (h3:∀ r e,P r (En.ob e)):cg T' lo t dr ep xs:=
 { x with ht:=u.get (h1 _ _) x.ht,hd:=u.get (h2 _ _ _) x.hd,he:=fun y m=>u.get (h3 _ _) (x.he y m) }
theorem cg.all {T T':Hp} {lo t dr ep:Nat} {xs:List Nd} (x:cg T lo t dr ep xs) (u:Upd T.n All T T'):cg T' lo t dr ep xs:=x.upd u (fun _ _=>trivial) (fun _ _ _=>trivial) fun _ _=>trivial
theorem aB.upd {T T':Hp} {P:Nat→AO→Prop} {lo t:Nat} {es:Es} (x:aB T lo t es) (u:Upd T.n P T T') (h1:∀ r dr,P r (pR dr)) (h2:∀ r es ep,P r (.dict es ep)) (h3:∀ r e,P r (En.ob e)):aB T' lo t es:=
 let ⟨dr,ep,xs,x,e⟩:=x; ⟨dr,ep,xs,x.upd u h1 h2 h3,e⟩
theorem aB.all {T T':Hp} {lo t:Nat} {es:Es} (x:aB T lo t es) (u:Upd T.n All T T'):aB T' lo t es:=x.upd u (fun _ _=>trivial) (fun _ _ _=>trivial) fun _ _=>trivial
theorem Upd.a {n:Nat} {P:Nat→AO→Prop} {T T':Hp} (u:Upd n All T T'):Upd n P T T':=u.weak (Nat.le_refl _) fun _ _ _=>trivial
theorem Upd.then {P:Nat→AO→Prop} {T T1 T2:Hp} {n:Nat} (u:Upd n P T T1) (v:Upd T1.n P T1 T2) (le:n≤T1.n):Upd n P T T2:=u.trans (v.weak le fun _ _ p=>p)
section
variable {c:Cx} (ok:Ok c) (hG:c.G=G) {d lo t dr ep:Nat} {T:Hp} {xs:List Nd} {es:Es}
include ok hG
theorem xM {p:List Nat} {b:Bool} (t3:cg T lo t dr ep xs) (h:(dlk (.str p) (xs.map Nd.dc)).isSome=b):Ca c 238 [.ref t,.str p] (d+1) T (.bool b) T:=by
 have ht:=t3.ht
 have:CaP c T 238 [.ref t,.str p] (d+1) fun u T'=>u=.bool b∧T'=T:=by
  refine aH ok (l:=[(1735222900,_),(1769300593,_)]) (tF hG rfl) rfl fun Qz hQ=>?_
  refine aK (fB (aj rfl) (aO ok rfl (by trivial) (by exact tA hG rfl) (by exact rfl)) (by exact cmt (ib t3.hd cR) h)) ?_
  apply hQ
  exact ⟨rfl,rfl⟩
 refine zEEAL this fun _ h gR0=>?_
 subst gR0
 exact h
theorem iC {p:List Nat} {e:En} (h:aB T lo t es) (m:(p,e)∈es):Ca c 238 [.ref t,.str p] (d+1) T (.bool true) T:=by
 refine zEEEA h fun dr ep xs t3 gR0=>?_
 subst gR0
 refine zEA (List.mem_map.mp m) fun x hm q=>?_
 cases q
 exact xM ok hG t3 (by rw [dY hm t3.np]; rfl)
theorem nF {p:List Nat} (h:aB T lo t es) (m:p∉es.map (·.1)):Ca c 238 [.ref t,.str p] (d+1) T (.bool false) T:=by
 refine zEEEA h fun dr ep xs t3 gR0=>?_
 subst gR0
 rw [List.map_map] at m
 exact xM ok hG t3 (by rw [qA m]; rfl)
theorem ou {x:Nd} (t3:cg T lo t dr ep xs) (m:x∈xs):Ca c 245 [.ref t,.str x.p] (d+1) T (.ref x.r) T:=by
 have ht:=t3.ht
 have q:=dY m t3.np
 have:CaP c T 245 [.ref t,.str x.p] (d+1) fun u T'=>u=.ref x.r∧T'=T:=by
  refine aH ok (l:=[(1735222900,_),(1769300593,_)]) (tF hG rfl) rfl fun Qz hQ=>?_
  refine aL (az (t:=false) (aj rfl) (aO ok rfl (by trivial) (by exact tA hG rfl) (by exact rfl)) (by exact cmt (nZ t3.hd cR) (by rw [q]; rfl))) ?_
  refine aK (di (aO ok rfl (by trivial) (by exact tA hG rfl) (by exact rfl)) (aj rfl) (cQ t3.hd cR q)) ?_
  apply hQ
  exact ⟨rfl,rfl⟩
 refine zEEAL this fun _ h gR0=>?_
 subst gR0
 exact h
theorem cC {p:List Nat} {e:En} (h:aB T lo t es) (m:(p,e)∈es):∃ r,Ca c 245 [.ref t,.str p] (d+1) T (.ref r) T∧T.get r=some e.ob:=by
 refine zEEEA h fun dr ep xs t3 gR0=>?_
 subst gR0
 refine zEA (List.mem_map.mp m) fun x hm q=>?_
 cases q
 exact ⟨x.r,ou ok hG t3 hm,t3.he x hm⟩
end
noncomputable abbrev hZ:En:=⟨.str [],0,0,.none,.none,.obj 182,0,0,0⟩
theorem nd1 {α:Type} {a:α}:[a].Nodup:=List.nodup_cons.mpr ⟨List.not_mem_nil,List.nodup_nil⟩
structure Cp (T:Hp) (n0 A ep:Nat) (ys:List Nd):Prop where
 hd:T.get A=some (.dict (ys.map Nd.dc) ep)
 he:∀ y∈ys,T.get y.r=some y.e.ob
 le:∀ y∈ys,n0≤y.r
 nr:(ys.map Nd.r).Nodup
theorem bV {α β:Type} (f:α→β) (pr:List α) (x:α) (l:List α):((pr ++ x :: l).map f)[pr.length]?=some (f x):=by
 rw [List.getElem?_map,List.getElem?_append_right (Nat.le_refl _),Nat.sub_self]; rfl
theorem cq {α β:Type} (f:α→β) (pr:List α):(pr.map f)[pr.length]?=none:=by
 rw [List.getElem?_map,List.getElem?_eq_none (Nat.le_refl _)]; rfl
theorem hJ (xs:List Nd):(xs.map Nd.dc).map (·.1)=xs.map fun x=>AV.str x.p:=by rw [List.map_map]; rfl
theorem Cp.add {T T1:Hp} {n0 A ep:Nat} {ys:List Nd} (h:Cp T n0 A ep ys) {p:List Nat} {e:En} (np:p∉ys.map Nd.p) (u:Upd T.n All T T1) (g:T1.get T.n=some e.ob) (le:n0≤T.n):Cp (aI T1 A (.dict (dpt (.str p) (.ref T.n) (ys.map Nd.dc)) (epS (.str p) (ys.map Nd.dc) ep))) n0 A (ep+1) (ys ++ [⟨p,T.n,e⟩]):=by
 have g0:=u.get trivial h.hd
 refine ⟨?_,fun y m=>?_,fun y m=>?_,?_⟩
 ·rw [← pc e np,← sC np]; exact ac g0
 ·rcases List.mem_append.mp m with m | m
  ·exact an g0 (u.get trivial (h.he y m)) rfl
  ·cases List.mem_singleton.mp m; exact an g0 g rfl
 ·rcases List.mem_append.mp m with m | m
  ·exact h.le y m
  ·cases List.mem_singleton.mp m; exact le
 ·rw [List.map_append,List.nodup_append]
  refine ⟨h.nr,nd1,fun a ha b hb=>?_⟩
  refine zEA (List.mem_map.mp ha) fun y m gR0=>?_
  subst gR0
  cases List.mem_singleton.mp hb
  exact Nat.ne_of_lt (aP (h.he y m))
section
variable {c:Cx} (ok:Ok c) (hG:c.G=G) {d lo t dr ep:Nat} {T:Hp} {xs:List Nd} {es:Es}
include ok hG
theorem gM (hn:1≤T.n):CaP c (aq T (.inst 289 [])) 231 [.ref T.n] (d+3) fun u T'=>u=.none∧aB T' T.n T.n [([47],hZ)]∧Upd T.n All T T':=by
 refine aH ok (l:=[(1735222900,_)]) (tF hG rfl) rfl fun Qz hQ=>?_
 refine zEEALAA (fL ok hG (T:=aq (aq T (.inst 289 [])) (.dict [] 0)) (d:=d) (dt:=.str []) (ow:=.none) (le:=.none) (ri:=.obj 182) (ma:=0) (Nat.le_add_left 1 _)) fun T1 h1 g1 u1 n1=>?_
 have ga:T1.get T.n=some (.inst 289 []):=u1.get trivial (af (ag _ _))
 have gb:T1.get (aq T (.inst 289 [])).n=some (.dict [] 0):=u1.get trivial (ag (aq T (.inst 289 [])) _)
 apply am
 apply eu ok
 apply kD ok
 apply bM
 apply aY
 refine ke ok (tG hG rfl) (tC hG rfl) rfl ?_
 apply aA
 apply aY
 apply aA
 apply gG
 apply aA
 apply gG
 apply aA
 refine rI ok (tG hG rfl) ?_
 apply aA
 apply bw
 apply au
 refine bK (h1) ?_
 apply pM
 apply lB
 apply tZ
 exact gb
 exact Nat.ble_eq_true_of_le (by first | assumption | exact Nat.le_add_left 1 _ | exact lb rfl)
 exact rfl
 exact List.cons_ne_nil _ _
 exact rfl
 apply m7
 exact rfl
 ·exact an ‹_› ‹_› rfl
 exact tA hG rfl
 exact lb rfl
 first | assumption | exact Nat.le_add_left 1 _ | exact lb rfl
 apply ax
 apply hQ
 refine ⟨rfl,⟨T.n+1,1,[⟨[47],T.n+2,hZ⟩],⟨ac (an gb ga rfl),an (an gb ga rfl) (ac gb) rfl,fun x m=>?_,Nat.le_refl _,Nat.le_succ _,fun x m=>?_,nd1,nd1,lb rfl⟩,rfl⟩,?_⟩
 ·cases List.mem_singleton.mp m
  exact an (an gb ga rfl) (an gb g1 rfl) rfl
 ·cases List.mem_singleton.mp m; exact Nat.le_add_right _ 2
 ·exact ((((Upd.refl.new.new (o:=.dict [] 0)).trans (u1.weak (Nat.le_add_right _ 2) fun _ _ _=>trivial))).put (Nat.le_succ _)).put (Nat.le_refl _)
theorem pX {n0 A:Nat} {len:Nat} {v:PE} (hA:n0≤A) (hn0:1≤n0) (hd0:dr<n0) (hlen:xs.length=len) (sz:xs.length<60) (np:(xs.map Nd.p).Nodup) (l:List Nd):∀ (pr ys:List Nd) (ep':Nat) (T:Hp) (loc:Loc),xs=pr ++ l→T.get t=some (pR dr)→T.get dr=some (.dict (xs.map Nd.dc) ep)→(∀ x∈xs,T.get x.r=some x.e.ob)→Cp T n0 A ep' ys→ys.map Nd.pe=pr.map Nd.pe→n0≤T.n→lk loc 1735222900=some (.ref t) →
  CoP c (d+3) loc T (.dict (.loc 1769300593) (.meth (.sub (.attr (.loc 1735222900) 32763704688078694) (.loc 1769300593)) 2054254692 .nil)) A [1769300593] dr (.dict len ep) pr.length .nil fun T'=>∃ ep'' ys',Cp T' n0 A ep'' ys'∧ys'.map Nd.pe=xs.map Nd.pe∧Upd n0 All T T':=by
 induction l with
 | nil=>
  intro pr ys ep' T loc hx ht hd he cp hy hn hs
  rw [List.append_nil] at hx
  subst hx
  exact cI (kg hd (by rw [LQ]; exact hlen) (by rw [hJ]; exact cq _ _)) ⟨_,_,cp,hy,Upd.refl⟩
 | cons x l ih=>
  intro pr ys ep' T loc hx ht hd he cp hy hn hs
  have mx:x∈xs:=hx▸List.mem_append_right _ (.head _)
  have q:=dY mx np
  refine zEEALAA (oA ok hG (d:=d) (Nat.le_trans hn0 hn) (he x mx)) fun T1 h1 g1 u1 n1=>?_
  have ne:dr≠A:=Nat.ne_of_lt (Nat.lt_of_lt_of_le hd0 hA)
  have npx:x.p∉ys.map Nd.p:=by
   have e:ys.map Nd.p=pr.map Nd.p:=by
    have:=congrArg (List.map (·.1)) hy
    rw [List.map_map,List.map_map] at this; exact this
   rw [e]
   rw [hx,List.map_append,List.nodup_append] at np
   exact fun m=>np.2.2 _ m _ (.head _) rfl
  have cp1:=cp.add npx u1 g1 hn
  have gA:=u1.get trivial cp.hd
  have yl:ys.length<60:=by
   have:=congrArg List.length hy
   rw [LQ,LQ] at this
   rw [this]; rw [hx,List.length_append] at sz
   exact Nat.lt_of_le_of_lt (Nat.le_add_right _ _) sz
  refine sO (kg hd (by rw [LQ]; exact hlen) (by rw [hJ,hx]; exact bV _ _ _ _)) aX ?_
  have k1:lk (pt loc 1769300593 (.str x.p)) 1769300593=some (.str x.p):=by rw [bc,if_pos rfl]
  have k2:lk (pt loc 1769300593 (.str x.p)) 1735222900=some (.ref t):=by rw [bc,if_neg (by decide)]; exact hs
  apply cH; apply bd
  refine aE k1 ?_
  apply gY ok; apply cL
  refine cx ok k2 ht (tA hG rfl) rfl ?_
  refine aE k1 ?_
  refine ej (cQ hd cR q) ?_
  refine iQ (he x mx) (tM hG rfl) rfl ?_
  apply au
  refine bK h1 ?_
  refine wg gA cR (by rw [LQ]; exact Nat.lt_trans yl (lb rfl)) (Nat.le_trans hn0 hA) ?_
  have:=ih (pr ++ [x]) _ _ _ (pt loc 1769300593 (.str x.p)) (by rw [hx,List.append_assoc]; rfl) (an gA (u1.get trivial ht) rfl) (cb ne (u1.get trivial hd)) (fun y m=>an gA (u1.get trivial (he y m)) rfl) cp1 (by rw [List.map_append,List.map_append,hy]; rfl) (show n0≤T1.n from n1▸Nat.le_succ_of_le hn) k2
  rw [List.length_append] at this
  refine zEAEEAA this fun T' h2 ep'' ys' c2 e2 u2=>?_
  exact ⟨T',h2,ep'',ys',c2,e2,((u1.weak hn fun _ _ _=>trivial).put hA).trans u2⟩
theorem eP (h:aB T lo t es) (hn:1≤T.n):CaP c T 260 [.ref t] (d+5) fun u T'=>u=.ref T.n∧aB T' T.n T.n es∧Upd T.n All T T':=by
 refine zEEEA h fun dr ep xs t3 gR0=>?_
 subst gR0
 refine aH ok (l:=[(1735222900,_)]) (tF hG rfl) rfl fun Qz hQ=>?_
 refine gp fun gP gH=>?_
 refine zEEALA (gM ok hG (T:=T) (d:=d) hn) fun T1 h1 gN0 u1=>?_
 obtain ⟨dr1,ep1,xs1,t31,hx1⟩:=gN0
 have l1:=aP t31.ht
 have ht:=u1.get trivial t3.ht
 have hd:=u1.get trivial t3.hd
 have:=pX ok hG (d:=d+1) (n0:=T1.n) (A:=T1.n) (t:=t) (dr:=dr) (ep:=ep) (Nat.le_refl _) (Nat.le_trans hn u1.1) (aP hd) rfl t3.sz t3.np (v:=.none) xs [] [] 0 (aq T1 (.dict [] 0)) (rm [bq,1769300593] [(1735222900,.ref t),(495639426416,.ref T.n)]) rfl (af ht) (af hd) (fun x m=>af (u1.get trivial (t3.he x m))) ⟨ag _ _,fun y m=>(by cases m),fun y m=>(by cases m),List.nodup_nil⟩ rfl (Nat.le_succ _) rfl
 refine zEAEEAA this fun T2 h2 ep2 ys cp hy u2=>?_
 apply gH;clear gH
 have gt:T2.get T.n=some (pR dr1):=u2.2 _ _ l1 trivial (af t31.ht)
 refine aR (kj ok (tG hG rfl) (tC hG rfl) rfl ae (h1)) ?_
 refine be ok (kK ok (aO ok rfl (by trivial) (by exact tA hG rfl) (by exact rfl)) (show ed T1 dr (.dict xs.length ep) from ⟨_,hd,LQ _⟩) (h2)) rfl (by trivial) (by exact tA hG rfl) (by exact lb rfl) (by first|assumption|exact Nat.le_add_left 1 _|exact lb rfl) ?_
 refine aK (aj rfl) ?_
 apply hQ
 have ln:ys.length=xs.length:=by
  have:=congrArg List.length hy
  rw [LQ,LQ] at this; exact this
 have e:ys.map Nd.p=xs.map Nd.p:=by
  have:=congrArg (List.map (·.1)) hy
  rw [List.map_map,List.map_map] at this; exact this
 refine ⟨rfl,⟨T1.n,ep2,ys,⟨ac gt,an gt cp.hd rfl,fun y m=>cb (Nat.ne_of_gt (Nat.lt_of_lt_of_le l1 (cp.le y m))) (cp.he y m),Nat.le_refl _,Nat.le_of_lt l1,fun y m=>Nat.le_trans (Nat.le_of_lt l1) (cp.le y m),cp.nr,e▸t3.np,ln▸t3.sz⟩,hy⟩,?_⟩
 exact (u1.then (Upd.refl.new.trans u2) (Nat.le_of_lt l1)).put (Nat.le_refl _)
end
noncomputable abbrev vI:List Nat:=[97,98,99,100,101,102,103,104,105,106,107,108,109,110,111,112,113,114,115,116,117,118,119,120,121,122,48,49,50,51,52,53,54,55,56,57,45,95,46]
noncomputable def iP (s:List Nat):Bool:=!s.isEmpty && Nat.ble s.length 40 && !decide (s=[46]) && !decide (s=[46,46]) && s.all fun b=>vI.contains b
noncomputable def names:List Nat→List Nat→List (List Nat)
 | a,[]=>[a.reverse]
 | a,x :: l=>if x=47 then a.reverse :: names [] l else names (x :: a) l
noncomputable def rix (p:List Nat):Nat:=p.length - 1 - p.reverse.findIdx (fun x=>decide (x=47))
noncomputable def bZ (p:List Nat):List Nat:=if rix p=0 then [47] else p.take (rix p)
noncomputable def hH (p:List Nat):List Nat:=p.drop (rix p+1)
noncomputable def okP (p:List Nat):Bool:=(match p with | []=>false | x :: _=>Nat.beq x 47) && Nat.ble p.length 200 && decide (p[rix p]?=some 47) && ((hH p).all fun x=>!decide (x=47)) &&
 (decide (p=[47]) || (decide (ec 47 (names [] (p.drop 1))=p.drop 1) && !(names [] (p.drop 1)).isEmpty && Nat.ble (names [] (p.drop 1)).length 10 && (names [] (p.drop 1)).all fun n=>iP n && !n.contains 47))
structure OkP (p:List Nat):Prop where
 hd:∃ q,p=47 :: q
 len:p.length≤200
 ix:p[rix p]?=some 47
 no:∀ k,rix p<k→p[k]?≠some 47
 nms:p=[47]∨(p≠[47]∧∃ ns,ns≠[]∧ec 47 ns=p.drop 1∧ns.length≤10∧∀ n∈ns,iP n=true∧47∉n)
theorem aW {p:List Nat} (h:okP p=true):OkP p:=by
 unfold okP at h
 simp -iota only [Bool.and_eq_true,Bool.or_eq_true] at h
 refine gp fun gP gH=>?_
 refine zA h fun gN0 h5=>?_
 obtain ⟨⟨⟨h1,h2⟩,h3⟩,h4⟩:=gN0
 apply gH;clear gH
 refine ⟨?_,Nat.le_of_ble_eq_true h2,of_decide_eq_true h3,fun k hk e=>?_,?_⟩
 ·cases p with
  | nil=>cases h1
  | cons x q=>exact ⟨q,by rw [Nat.eq_of_beq_eq_true h1]⟩
 ·have m:47∈hH p:=by
   refine List.mem_of_getElem? (i:=k - (rix p+1)) ?_
   unfold hH
   rw [List.getElem?_drop,Nat.add_sub_cancel' hk]; exact e
  have:=List.all_eq_true.mp h4 47 m
  cases this
 ·by_cases z:p=[47]
  ·exact .inl z
  ·rcases h5 with h5 | ⟨⟨⟨h5,h6⟩,h7⟩,h8⟩
   ·exact absurd (of_decide_eq_true h5) z
   ·refine .inr ⟨z,_,fun e=>?_,of_decide_eq_true h5,Nat.le_of_ble_eq_true h7,fun n m=>?_⟩
    ·rw [e] at h6; cases h6
    ·have:=List.all_eq_true.mp h8 n m
     rw [Bool.and_eq_true] at this
     refine ⟨this.1,fun m=>?_⟩
     have t:=this.2
     rw [List.contains_iff_mem.mpr m] at t; cases t
theorem qn {s:List Nat} (h:iP s=true):s≠[]∧s.length≤40∧s≠[46]∧s≠[46,46]∧∀ b∈s,b∈vI:=by
 unfold iP at h
 simp only [Bool.and_eq_true] at h
 refine gp fun gP gH=>?_
 refine zA h fun gN0 h5=>?_
 obtain ⟨⟨⟨h1,h2⟩,h3⟩,h4⟩:=gN0
 apply gH;clear gH
 refine ⟨fun e=>?_,Nat.le_of_ble_eq_true h2,fun e=>?_,fun e=>?_,fun b m=>List.contains_iff_mem.mp (List.all_eq_true.mp h5 b m)⟩
 ·subst e; cases h1
 ·subst e; cases h3
 ·subst e; cases h4
theorem d8 {a b:List Nat} (h:a≠b):pq (.str a) (.str b)=some false:=congrArg some (decide_eq_false h)
theorem oX {a b:List Nat} (h:b≠a):sq (.str a) (.str b)=false:=decide_eq_false (Ne.symm h)
section
variable {c:Cx} (ok:Ok c) (hG:c.G=G) {d lo t dr ep:Nat} {T:Hp} {xs:List Nd} {es:Es}
include ok hG
theorem pH {src:Nat} {ns:List (List Nat)} (l:List (List Nat)):∀ (pr:List (List Nat)) (T:Hp) (loc:Loc),ns=pr ++ l→(∀ n∈l,iP n=true)→T.get src=some (.list (ns.map .str)) →
  ∃ loc' T',Lo c [1718510191] src .list pr.length (.cons (.ite (.or (.cons (.cmp .eq (.loc 1718510191) (.str [])) (.cons (.cmp .gt (.call (.glb 7300717) (.cons (.loc 1718510191) .nil)) (.glb 24018033858007117)) (.cons (.cmp .isin (.loc 1718510191) (.list (.cons (.str [46]) (.cons (.str [46,46]) .nil)))) (.cons (.cmp .ne (.meth (.loc 1718510191) iH (.cons (.glb 362107390548) .nil)) (.str [])) .nil))))) (.cons .bad .nil) .nil) .nil) d loc T (.nxt loc') T'∧lk loc' 1769300593=lk loc 1769300593∧Upd T.n All T T':=by
 induction l with
 | nil=>
  intro pr T loc hx hk hs
  rw [List.append_nil] at hx; subst hx
  exact ⟨_,_,mT (cj hs (cq _ _)),rfl,Upd.refl⟩
 | cons s l ih=>
  intro pr T loc hx hk hs
  refine gp fun gP gH=>?_
  refine zAAAA (qn (hk s (.head _))) fun q1 q2 q3 q4 q5=>?_
  obtain ⟨loc',T',h2,e2,u2⟩:=ih (pr ++ [s]) (aq T (.list [.str [46],.str [46,46]])) (pt loc 1718510191 (.str s)) (by rw [hx,List.append_assoc]; rfl) (fun n m=>hk n (.tail _ m)) (af hs)
  apply gH;clear gH
  have kN:lk (pt loc 1718510191 (.str s)) 1718510191=some (.str s):=by rw [bc,if_pos rfl]
  rw [List.length_append] at h2
  have:ExP c d (pt loc 1718510191 (.str s)) T (.cons (.ite (.or (.cons (.cmp .eq (.loc 1718510191) (.str [])) (.cons (.cmp .gt (.call (.glb 7300717) (.cons (.loc 1718510191) .nil)) (.glb 24018033858007117)) (.cons (.cmp .isin (.loc 1718510191) (.list (.cons (.str [46]) (.cons (.str [46,46]) .nil)))) (.cons (.cmp .ne (.meth (.loc 1718510191) iH (.cons (.glb 362107390548) .nil)) (.str [])) .nil))))) (.cons .bad .nil) .nil) .nil) (fun l T1=>l=pt loc 1718510191 (.str s)∧T1=aq T (.list [.str [46],.str [46,46]])) (fun _ _=>False):=by
   apply am; apply dj; apply oP; apply cu; apply aT
   refine aE kN ?_
   apply aY
   refine bE false (bf (d8 q1)) ?_
   apply bd; apply cu; apply aT
   refine bA ok (tG hG rfl) (.inl ⟨_,rfl⟩) ?_
   apply aA
   refine aE kN ?_
   apply au
   refine eF (gR (Nat.lt_of_le_of_lt q2 (lb rfl))) ?_
   refine rI ok (tG hG rfl) ?_
   refine bE false (cmt jd (decide_eq_false (Int.not_lt.mpr (Int.ofNat_le.mpr q2)))) ?_
   apply bd; apply cu; apply aT
   refine aE kN ?_
   apply d5; apply aA; apply aY; apply aA; apply aY; apply au
   refine d0 (lb rfl) ?_
   refine bE false (cmt (tJ (.inr (ag _ _)) rfl) (by show (sq _ _ || (sq _ _ || false))=false; rw [oX q3,oX q4]; rfl)) ?_
   apply bd; apply cu; apply aT; apply iG
   refine aE kN ?_
   refine tP tv ?_
   apply aA
   refine rI ok (tG hG rfl) ?_
   apply au
   refine t0 (sB q5 (Nat.lt_of_le_of_lt q2 (lb rfl))) ?_
   apply aY
   refine bE false (iu (t:=true) rfl) ?_
   apply bd
   apply gq
   apply ax
   apply ax
   exact ⟨rfl,rfl⟩
  obtain ⟨_,_,h1,rfl,rfl⟩ | ⟨_,_,_,f⟩:=this
  ·exact ⟨loc',T',gJ (cj hs (by rw [hx]; exact bV _ _ _ _)) aX h1 h2,by rw [e2,bc,if_neg (by decide)],Upd.refl.new.then u2 (Nat.le_succ _)⟩
  ·exact f.elim
theorem dZ {p:List Nat} (hp:OkP p):CaP c T 103 [.str p] (d+1) fun u T'=>u=.str p∧Upd T.n All T T':=by
 refine zE hp.hd fun q gR0=>?_
 subst gR0
 refine aH ok (l:=[(1769300593,_)]) (tF hG rfl) rfl fun Qz hQ=>?_
 rcases hp.nms with e | ⟨ne,ns,n1,n2,n3,n4⟩
 ·cases e
  refine aL (gz (bn (az (t:=false) (aN ok (tG hG rfl) (.inr ⟨_,rfl⟩) (ah rfl ae) (by first|exact dE|exact dA|exact dz (by (trivial)))) (dk ok (tG hG rfl)) (by first|exact bv|exact bN rfl|exact bX)) (bn (fU (t:=true) (bj (t:=true) rfl (bH (aj rfl) (cW) (ai aQ ae) (cZ)))) cB))) ?_
  refine bF (az (t:=true) (aj rfl) aQ (bf rfl)) ?_
  refine aK (aj rfl) ?_
  apply hQ
  exact ⟨rfl,Upd.refl⟩
 ·have hl:=hp.len
  refine zEEAA (pH ok hG (d:=d) (src:=T.n) (ns:=ns) ns [] (aq T (.list (ns.map .str))) [(1769300593,.str (47 :: q))] rfl (fun n m=>(n4 n m).1) (ag _ _)) fun loc' T' h2 e2 u2=>?_
  refine aL (gz (bn (az (t:=false) (aN ok (tG hG rfl) (.inr ⟨_,rfl⟩) (ah rfl ae) (by first|exact dE|exact dA|exact dz (by (trivial)))) (dk ok (tG hG rfl)) (by first|exact bv|exact bN rfl|exact bX)) (bn (fU (t:=true) (bj (t:=true) rfl (bH (aj rfl) (cW) (ai aQ ae) (cZ)))) cB))) ?_
  refine aL (az (t:=false) (aj rfl) aQ (by exact bf (d8 ne))) ?_
  apply am
  apply hI
  apply iG
  apply uR
  refine aE rfl ?_
  apply bw
  refine yw (qx (Nat.lt_of_le_of_lt hl (lb rfl)) (nC 1 _)) ?_
  refine tP (tI) ?_
  apply aA
  apply aY
  apply au
  refine t0 (tS n1 (fun p m=>(n4 p m).2) n2 (Nat.lt_of_le_of_lt (Nat.le_trans (Nat.le_succ _) hl) (lb rfl)) (Nat.lt_of_le_of_lt n3 (lb rfl))) ?_
  refine jx (ikL (ag _ _)) ?_
  refine qq (h2) ?_
  refine aK (aj (e2)) ?_
  apply hQ
  exact ⟨rfl,Upd.refl.new.then u2 (Nat.le_succ _)⟩
end
theorem iJ {k:Nat}:(bL k).length≤2∧0<(bL k).length:=by
 unfold bL; split <;> exact ⟨lb rfl,lb rfl⟩
theorem lt4 {n m:Nat} (h:n≤m) (q:Nat.ble (m+1) 4000=true):n<4000:=Nat.lt_of_le_of_lt h (Nat.le_of_ble_eq_true q)
section
variable {c:Cx} (ok:Ok c) (hG:c.G=G) {d lo t dr ep:Nat} {T:Hp} {xs:List Nd} {es:Es}
include ok hG
theorem de {p:List Nat} (hp:OkP p) (ne:p≠[47]):CaP c T 110 [.str p] (d+2) fun u T'=>u=.str (bZ p)∧Upd T.n All T T':=by
 refine zEEAL (dZ ok hG (d:=d) (T:=T) hp) fun T1 h1 u1=>?_
 unfold bZ
 by_cases z:rix p=0
 ·rw [if_pos z]
  refine aH ok (l:=[(1769300593,_)]) (tF hG rfl) rfl fun Qz hQ=>?_
  refine aL (az (t:=false) (aS ok (tG hG rfl) (tF hG rfl) (ah rfl ae) (h1)) aQ (by exact bf (d8 ne))) ?_
  refine aR (bH (aj rfl) (i5) (ai aQ ae) (jv hp.ix hp.no)) ?_
  refine bF (az (t:=true) (aj rfl) aD (by exact bf (congrArg some (decide_eq_true (by rw [z]; rfl))))) ?_
  refine aK aQ ?_
  apply hQ
  exact ⟨rfl,u1⟩
 ·rw [if_neg z]
  refine aH ok (l:=[(1769300593,_)]) (tF hG rfl) rfl fun Qz hQ=>?_
  refine aL (az (t:=false) (aS ok (tG hG rfl) (tF hG rfl) (ah rfl ae) (h1)) aQ (by exact bf (d8 ne))) ?_
  refine aR (bH (aj rfl) (i5) (ai aQ ae) (jv hp.ix hp.no)) ?_
  refine aL (az (t:=false) (aj rfl) aD (by exact bf (congrArg some (decide_eq_false fun e=>z (Int.ofNat_inj.mp e))))) ?_
  refine aK (eM (aj rfl) (aj rfl) (qx (lt4 hp.len rfl) (vR _ _))) ?_
  apply hQ
  exact ⟨rfl,u1⟩
theorem ul {p:List Nat} (hp:OkP p):CaP c T 117 [.str p] (d+2) fun u T'=>u=.str (hH p)∧Upd T.n All T T':=by
 refine aH ok (l:=[(1769300593,_)]) (tF hG rfl) rfl fun Qz hQ=>?_
 refine zEEAL (dZ ok hG (d:=d) (T:=T) hp) fun T1 h1 u1=>?_
 refine aK (eM (aS ok (tG hG rfl) (tF hG rfl) (ah rfl ae) (h1)) (bB (bH (aj rfl) (i5) (ai aQ ae) (jv hp.ix hp.no)) aD (cE)) (qx (lt4 hp.len rfl) (nC (rix p+1) _))) ?_
 apply hQ
 exact ⟨rfl,u1⟩
end
inductive Rch (es:Es):List Nat→Prop where
 | here {p:List Nat} {e:En} (m:(p,e)∈es) (h:e.rig=.obj 182):Rch es p
 | up {p:List Nat} (hp:OkP p) (ne:p≠[47]) (h:p∉es.map (·.1)∨∃ e,(p,e)∈es∧e.rig=.none) (r:Rch es (bZ p)):Rch es p
noncomputable abbrev o4:List Nat:=[97,99,100,114,119]
noncomputable abbrev wlT:PE:=.or (.cons (.not (.meth (.loc 1717990261) 7627369 (.cons (.loc 1769300593) .nil))) (.cons (.cmp .is (.attr (.meth (.loc 1717990261) 525923086182 (.cons (.loc 1769300593) .nil)) 128047628446323) .none) .nil))
noncomputable abbrev wlB:PSs:=.cons (.asg 1769300593 (.call (.glb 129121320657521) (.cons (.loc 1769300593) .nil))) .nil
section
variable {c:Cx} (ok:Ok c) (hG:c.G=G) {d lo t dr ep:Nat} {T:Hp} {xs:List Nd} {es:Es}
theorem wi {r ep d:Nat} {es:List (AV × AV)} {k u:AV} (ho:T.get r=some (.dict es ep)) (hk:kOk k es=true) (h:dlk k es=none):Bm c "dict.get" (.ref r) [k,u] d T u T:=by
 have:=vq (c:=c) (d:=d) (u:=u) ho hk
 rw [h] at this; exact this
theorem w5 {r ep d:Nat} {es:List (AV × AV)} {k u v:AV} (ho:T.get r=some (.dict es ep)) (hk:kOk k es=true) (h:dlk k es=some v):Bm c "dict.get" (.ref r) [k,u] d T v T:=by
 have:=vq (c:=c) (d:=d) (u:=u) ho hk
 rw [h] at this; exact this
include ok hG
theorem mM {p:List Nat} (r:Rch es p):∀ (T:Hp) (loc:Loc),aB T lo t es→lk loc 1717990261=some (.ref t)→lk loc 1769300593=some (.str p)→∃ loc' T' p' e,Wl c wlT wlB (d+3) loc T (.nxt loc') T'∧lk loc' 1717990261=some (.ref t)∧lk loc' 1769300593=some (.str p')∧(p',e)∈es∧e.rig=.obj 182∧Upd T.n All T T':=by
 induction r with
 | @here p e m h=>
  intro T loc tr h1 h2
  refine zEA (cC ok hG (d:=d+2) tr m) fun r he ge=>?_
  have hh:=iC ok hG (d:=d+2) tr m
  refine zEEEA (id tr) fun dr ep xs t3 hx=>?_
  have ht:=t3.ht
  have:WlP c (d+3) loc T wlT wlB (fun l T1=>l=loc∧T1=T) fun _ _=>False:=by
   apply w6
   apply oP
   apply cu
   apply fJ
   refine bS rfl ?_
   apply cD ok
   exact h1
   ·trivial
   exact tM hG rfl
   exact rfl
   refine aC h2 ?_
   apply au
   refine bK (hh) ?_
   apply eG
   apply bd
   apply cu
   apply aT
   apply dJ ok
   apply cD ok
   exact h1
   ·trivial
   exact tM hG rfl
   exact rfl
   refine aC h2 ?_
   apply au
   refine bK (he) ?_
   apply ft
   ·trivial
   exact tA hG rfl
   exact rfl
   apply gG
   refine bE false (by rw [h]; exact vL rfl) ?_
   apply bd
   apply gq
   apply bd
   exact ⟨rfl,rfl⟩
  obtain ⟨_,_,w,rfl,rfl⟩ | ⟨_,_,_,f⟩:=this
  ·exact ⟨_,_,p,e,w,h1,h2,m,h,Upd.refl⟩
  ·exact f.elim
 | @up p hp ne h r ih=>
  intro T loc tr h1 h2
  refine gp fun gP gH=>?_
  refine zEEEA (id tr) fun dr ep xs t3 hx=>?_
  have ht:=t3.ht
  refine zEEAL (de ok hG (d:=d+1) (T:=T) hp ne) fun T1 hc u1=>?_
  obtain ⟨loc',T',p',e,w,a1,a2,a3,a4,a5⟩:=ih T1 (pt loc 1769300593 (.str (bZ p))) (tr.all u1) (by rw [bc,if_neg (by decide)]; exact h1) (by rw [bc,if_pos rfl])
  apply gH;clear gH
  have:WlP c (d+3) loc T wlT wlB (fun l T2=>l=loc'∧T2=T') fun _ _=>False:=by
   apply uL
   rcases h with h | ⟨e0,m,h⟩
   ·have hh:=nF ok hG (d:=d+2) tr h
    apply oP
    apply dO
    apply fJ
    refine bS rfl ?_
    apply cD ok
    exact h1
    ·trivial
    exact tM hG rfl
    exact rfl
    refine aC h2 ?_
    apply au
    refine bK (hh) ?_
    apply eG
    apply bd
    apply bd
    refine aR (aS ok (tG hG rfl) (tF hG rfl) (ah (h2) ae) (hc)) ?_
    apply ax
    exact xb w ⟨rfl,rfl⟩
   ·obtain ⟨r,he,ge⟩:=cC ok hG (d:=d+2) tr m
    have hh:=iC ok hG (d:=d+2) tr m
    apply oP
    apply cu
    apply fJ
    refine bS rfl ?_
    apply cD ok
    exact h1
    ·trivial
    exact tM hG rfl
    exact rfl
    refine aC h2 ?_
    apply au
    refine bK (hh) ?_
    apply eG
    apply bd
    apply dO
    apply aT
    apply dJ ok
    apply cD ok
    exact h1
    ·trivial
    exact tM hG rfl
    exact rfl
    refine aC h2 ?_
    apply au
    refine bK (he) ?_
    apply ft
    ·trivial
    exact tA hG rfl
    exact rfl
    apply gG
    refine bE true (by rw [h]; exact vO) ?_
    apply bd
    apply bd
    refine aR (aS ok (tG hG rfl) (tF hG rfl) (ah (h2) ae) (hc)) ?_
    apply ax
    exact xb w ⟨rfl,rfl⟩
  obtain ⟨_,_,w2,rfl,rfl⟩ | ⟨_,_,_,f⟩:=this
  ·exact ⟨_,_,p',e,w2,a1,a2,a3,a4,u1.then a5 u1.1⟩
  ·exact f.elim
theorem qc {p:List Nat} (tr:aB T lo t es) (r:Rch es p):CaP c T 385 [.ref t,.str p] (d+4) fun v T'=>∃ r,v=.ref r∧T'.get r=some (.dict [(.str [42],.str o4)] 1)∧Upd T.n All T T':=by
 refine aH ok (l:=[(1717990261,_),(1769300593,_)]) (tF hG rfl) rfl fun Qz hQ=>?_
 refine gp fun gP gH=>?_
 refine zEEEEAA (mM ok hG (d:=d) r T [(1717990261,.ref t),(1769300593,.str p)] tr rfl rfl) fun loc' T' p' e w a1 gC0=>?_
 refine zAAA gC0 fun a2 a3 a4 a5=>?_
 refine zEA (cC ok hG (d:=d+2) (tr.all a5) a3) fun r he ge=>?_
 refine zEEEA (tr.all a5) fun dr ep xs t3 hx=>?_
 apply gH;clear gH
 have ht:=t3.ht
 have hr:lk c.G.top 182=some [.obj 181]:=by rw [hG]; rfl
 have hr2:lk c.G.top 181=some [.str [42],.str o4]:=by rw [hG]; rfl
 apply am
 apply xC
 refine xb (w) ?_
 refine aK (aN ok (tG hG rfl) (.inr ⟨_,rfl⟩) (ai (fC ok (bp ok (a1) (by trivial) (by exact tM hG rfl) (by exact rfl) (ah (a2) ae) (he)) (by trivial) (by exact tA hG rfl) (by exact rfl)) ae) (by rw [a4]; exact uC ok hr hr2)) ?_
 apply hQ
 exact ⟨_,rfl,ag _ _,a5.new⟩
theorem wF {p u:List Nat} {x:Nat} (tr:aB T lo t es) (r:Rch es p) (hu:u≠[42]) (hx:o4.contains x=true):CaP c T 392 [.ref t,.str p,.str u,.str [x]] (d+5) fun v T'=>v=.bool true∧Upd T.n All T T':=by
 refine aH ok (l:=[(1717990261,_),(1769300593,_),(1936094326,_),(126883894486637,_)]) (tF hG rfl) rfl fun Qz hQ=>?_
 refine zEEAELA (qc ok hG (d:=d) tr r) fun T1 r h1 g1 u1=>?_
 refine aR (aS ok (tG hG rfl) (tF hG rfl) (ah rfl (ah rfl ae)) (h1)) ?_
 refine aK (fB (aj rfl) (bB (bH (aj rfl) ((vz (by (trivial)))) (ah rfl (ai aQ ae)) (wi g1 rfl (if_neg fun e=>hu (of_decide_eq_true e).symm))) (bH (aj rfl) ((vz (by (trivial)))) (ai aQ (ai aQ ae)) (w5 g1 rfl rfl)) (fO (lb rfl))) (by exact cmt xi hx)) ?_
 apply hQ
 exact ⟨rfl,u1⟩
theorem cK {p u:List Nat} {x:Nat} (tr:aB T lo t es) (r:Rch es p) (hu:u≠[42]) (hx:o4.contains x=true):CaP c T 399 [.ref t,.str p,.str u,.str [x]] (d+6) fun v T'=>v=.none∧Upd T.n All T T':=by
 refine aH ok (l:=[(1717990261,_),(1769300593,_),(1936094326,_),(126883894486637,_)]) (tF hG rfl) rfl fun Qz hQ=>?_
 refine zEEAL (wF ok hG (d:=d) tr r hu hx) fun T1 h1 u1=>?_
 refine aL (fU (t:=true) (bj (t:=true) rfl (aS ok (tG hG rfl) (tF hG rfl) (ah rfl (ah rfl (ah rfl (ah rfl ae)))) (h1)))) ?_
 apply ax
 apply hQ
 exact ⟨rfl,u1⟩
theorem et:Ca c 378 [.none] (d+1) T .none T:=by
 have:CaP c T 378 [.none] (d+1) fun u T'=>u=.none∧T'=T:=by
  refine aH ok (l:=[(128047628446323,_)]) (tF hG rfl) rfl fun Qz hQ=>?_
  refine bF (az (t:=true) (aj rfl) bG (by first | exact vO | exact vL rfl | exact C_isT)) ?_
  refine aK bG ?_
  apply hQ
  exact ⟨rfl,rfl⟩
 refine zEEAL this fun _ h gR0=>?_
 subst gR0
 exact h
end
noncomputable def kid (p q:List Nat):Bool:=!decide (q=[47]) && decide (bZ q=p)
noncomputable def dM (p:List Nat) (l:List (List Nat)):List (List Nat):=(l.filter (kid p)).map hH
noncomputable abbrev chV:PE:=.call (.glb 1970561645) (.cons (.loc 6713200) .nil)
noncomputable abbrev chI:PEs:=.cons (.and (.cons (.cmp .ne (.loc 6713200) (.str [47])) (.cons (.cmp .eq (.call (.glb 129121320657521) (.cons (.loc 6713200) .nil)) (.loc 1769300593)) .nil))) .nil
theorem qk {p:List Nat} {l:List (List Nat)} {q:List Nat}:dM p (l ++ [q])=dM p l ++ (if kid p q=true then [hH q] else []):=by
 unfold dM
 rw [List.filter_append,List.map_append]
 congr 1
 cases h:kid p q
 ·rw [List.filter_cons_of_neg (by rw [h]; exact Bool.false_ne_true)]; rfl
 ·rw [List.filter_cons_of_pos h]; rfl
theorem lL (p:List Nat) (l:List (List Nat)):(dM p l).length≤l.length:=by
 unfold dM; rw [LQ]; exact List.length_filter_le _ _
section
variable {c:Cx} (ok:Ok c) (hG:c.G=G) {d lo t dr ep:Nat} {T:Hp} {xs:List Nd} {es:Es}
include ok hG
theorem pI {n0 A len:Nat} {p:List Nat} (hA:n0≤A) (h1:1≤A) (hlen:xs.length=len) (sz:xs.length<60) (hok:∀ x∈xs,OkP x.p) (l:List Nd):∀ (pr:List Nd) (T:Hp) (loc:Loc),xs=pr ++ l→T.get dr=some (.dict (xs.map Nd.dc) ep)→T.get A=some (.list ((dM p (pr.map Nd.p)).map .str))→n0≤T.n→lk loc 1769300593=some (.str p) →
  CoP c (d+2) loc T (.list chV) A [6713200] dr (.dict len ep) pr.length chI fun T'=>T'.get A=some (.list ((dM p (xs.map Nd.p)).map .str))∧Upd n0 All T T':=by
 induction l with
 | nil=>
  intro pr T loc hx hd ha hn hs
  rw [List.append_nil] at hx; subst hx
  exact cI (kg hd (by rw [LQ]; exact hlen) (by rw [hJ]; exact cq _ _)) ⟨ha,Upd.refl⟩
 | cons x l ih=>
  intro pr T loc hx hd ha hn hs
  have mx:x∈xs:=hx▸List.mem_append_right _ (.head _)
  have tn:=kg hd (len:=len) (j:=pr.length) (x:=some (.str x.p)) (by rw [LQ]; exact hlen) (by rw [hJ,hx]; exact bV _ _ _ _)
  have k1:lk (pt loc 6713200 (.str x.p)) 6713200=some (.str x.p):=by rw [bc,if_pos rfl]
  have k2:lk (pt loc 6713200 (.str x.p)) 1769300593=some (.str p):=by rw [bc,if_neg (by decide)]; exact hs
  have hx2:xs=(pr ++ [x]) ++ l:=by rw [hx,List.append_assoc]; rfl
  have ks:=qk (p:=p) (l:=pr.map Nd.p) (q:=x.p)
  have el:(pr ++ [x]).map Nd.p=pr.map Nd.p ++ [x.p]:=by rw [List.map_append]; rfl
  have ih:=fun T=>ih (pr ++ [x]) T (pt loc 6713200 (.str x.p)) hx2
  rw [List.length_append] at ih
  by_cases z:x.p=[47]
  ·have kz:kid p x.p=false:=by unfold kid; rw [decide_eq_true z]; rfl
   rw [kz,if_neg Bool.false_ne_true,List.append_nil] at ks
   refine eh tn aX ?_
   apply eB
   apply fR
   apply dO
   apply aT
   refine aE k1 ?_
   apply aY
   refine bE false (iu (t:=true) (congrArg some (decide_eq_true z))) ?_
   apply bd
   apply bd
   apply bd
   exact ih T hd (by rw [el,ks]; exact ha) hn k2
  ·obtain ⟨_,T1,hc,rfl,u1⟩:=de ok hG (d:=d) (T:=T) (hok x mx) z
   have hd1:=u1.get trivial hd
   have ha1:=u1.get trivial ha
   by_cases y:bZ x.p=p
   ·have kz:kid p x.p=true:=by unfold kid; rw [decide_eq_false z,decide_eq_true y]; rfl
    rw [kz,if_pos rfl] at ks
    refine zEEAL (ul ok hG (d:=d) (T:=T1) (hok x mx)) fun T2 hc2 u2=>?_
    have ha2:=u2.get trivial ha1
    refine cN tn aX ?_
    apply je
    apply fR
    apply cu
    apply aT
    refine aE k1 ?_
    apply aY
    refine bE true (iu (t:=false) (d8 z)) ?_
    apply bd
    apply cu
    apply aT
    refine cX ok (tG hG rfl) (tF hG rfl) ?_
    refine aC k1 ?_
    apply au
    refine bK (hc) ?_
    refine aE k2 ?_
    refine bE true (bf (congrArg some (decide_eq_true y))) ?_
    apply bd
    apply gq
    apply bd
    apply cH
    apply bd
    refine cX ok (tG hG rfl) (tF hG rfl) ?_
    refine aC k1 ?_
    apply au
    refine bK (hc2) ?_
    apply mD
    exact ha2
    rw [LQ]; exact lt4 (Nat.le_trans (lL _ _) (by rw [LQ]; rw [hx,List.length_append] at sz; exact Nat.le_trans (Nat.le_add_right _ _) (Nat.le_of_lt sz))) rfl
    first | assumption | exact Nat.le_add_left 1 _ | exact lb rfl
    obtain ⟨T',h9,g9,u9⟩:=ih _ (an ha2 (u2.get trivial hd1) rfl) (by rw [el,ks,List.map_append]; exact ac ha2) (Nat.le_trans hn (Nat.le_trans u1.1 u2.1)) k2
    exact ⟨T',h9,g9,((((u1.weak hn fun _ _ _=>trivial).then u2 (Nat.le_trans hn u1.1))).put hA).trans u9⟩
   ·have kz:kid p x.p=false:=by unfold kid; rw [decide_eq_false y,Bool.and_false]
    rw [kz,if_neg Bool.false_ne_true,List.append_nil] at ks
    refine eh tn aX ?_
    apply eB
    apply fR
    apply cu
    apply aT
    refine aE k1 ?_
    apply aY
    refine bE true (iu (t:=false) (d8 z)) ?_
    apply bd
    apply dO
    apply aT
    refine cX ok (tG hG rfl) (tF hG rfl) ?_
    refine aC k1 ?_
    apply au
    refine bK (hc) ?_
    refine aE k2 ?_
    refine bE false (bf (d8 y)) ?_
    apply bd
    apply bd
    apply bd
    obtain ⟨T',h9,g9,u9⟩:=ih T1 hd1 (by rw [el,ks]; exact ha1) (Nat.le_trans hn u1.1) k2
    exact ⟨T',h9,g9,(u1.weak hn fun _ _ _=>trivial).trans u9⟩
theorem hR {p:List Nat} {e:En} {m:List (List Nat)} (h:aB T lo t es) (me:(p,e)∈es) (hn:1≤T.n) (hok:∀ q∈es,OkP q.1) (pm:m.Perm (dM p (es.map (·.1)))) (so:Srt slt m):CaP c T 250 [.ref t,.str p] (d+3) fun u T'=>∃ r,u=.ref r∧T'.get r=some (.list (m.map .str))∧Upd T.n All T T':=by
 refine zEA (cC ok hG (d:=d+1) h me) fun r he ge=>?_
 refine zEEEA h fun dr ep xs t3 gR0=>?_
 subst gR0
 have ht:=t3.ht
 rw [List.map_map] at pm
 refine zEAA (pI ok hG (d:=d) (n0:=T.n) (A:=T.n) (dr:=dr) (ep:=ep) (p:=p) (Nat.le_refl _) hn rfl t3.sz (fun x m=>hok _ (List.mem_map_of_mem m)) xs [] (aq T (.list [])) (rm [bq,6713200] [(1735222900,.ref t),(1769300593,.str p)]) rfl (af t3.hd) (ag _ _) (Nat.le_succ _) rfl) fun T' h2 g2 u2=>?_
 have lx:(dM p (xs.map Nd.p)).length<64:=Nat.lt_of_le_of_lt (lL _ _) (by rw [LQ]; exact Nat.lt_trans t3.sz (lb rfl))
 refine aH ok (l:=[(1735222900,_),(1769300593,_)]) (tF hG rfl) rfl fun Qz hQ=>?_
 refine aV (bp ok rfl (by trivial) (by exact tM hG rfl) (by exact rfl) (ah rfl ae) (he)) ?_
 refine aK (aN ok (tG hG rfl) (.inl ⟨_,rfl⟩) (ai (dQ (aO ok rfl (by trivial) (by exact tA hG rfl) (by exact rfl)) (ikD t3.hd (LQ _)) (h2)) ae) (eW (iZ g2 (by rw [LQ]; exact lx)) lx pm so)) ?_
 apply hQ
 exact ⟨_,rfl,ag _ _,(Upd.refl.new.trans u2).new⟩
end
noncomputable def upX (p:List Nat) (f:En→En) (xs:List Nd):List Nd:=xs.map fun x=>if x.p=p then ⟨x.p,x.r,f x.e⟩ else x
noncomputable def upE (p:List Nat) (f:En→En) (es:Es):Es:=es.map fun x=>if x.1=p then (x.1,f x.2) else x
noncomputable def nM (p:List Nat) (xs:List Nd):List Nd:=xs.filter fun x=>!decide (x.p=p)
noncomputable def oy (p:List Nat) (es:Es):Es:=es.filter fun x=>!decide (x.1=p)
noncomputable def fX (num:Bool) (e:En):En:={ e with kids:=e.kids+1,cnt:=cond num (e.cnt+1) e.cnt }
theorem fZ {β:Type} {g:Nd→β} {p:List Nat} {f:En→En} (h:∀ x,g ⟨x.p,x.r,f x.e⟩=g x) (xs:List Nd):(upX p f xs).map g=xs.map g:=by
 unfold upX; rw [List.map_map]
 exact List.map_congr_left fun x _=>by
  show g (if x.p=p then _ else _)=_
  split
  ·exact h x
  ·rfl
theorem sA {p:List Nat} {f:En→En} (xs:List Nd):(upX p f xs).map Nd.pe=upE p f (xs.map Nd.pe):=by
 unfold upX upE; rw [List.map_map,List.map_map]
 exact List.map_congr_left fun x _=>by
  show Nd.pe (if x.p=p then _ else _)=if x.p=p then _ else _
  split <;> rfl
theorem pz {p:List Nat} (xs:List Nd):(nM p xs).map Nd.pe=oy p (xs.map Nd.pe):=by
 unfold nM oy; rw [List.filter_map]; rfl
theorem Nd.sameP {xs:List Nd} (nd:(xs.map Nd.p).Nodup) {x y:Nd} (hx:x∈xs) (hy:y∈xs) (e:x.p=y.p):x=y:=by
 induction xs with
 | nil=>cases hx
 | cons z xs ih=>
  have nd:=List.nodup_cons.mp nd
  cases hx with
  | head=>cases hy with
   | head=>rfl
   | tail _ m=>exact absurd (e▸List.mem_map_of_mem m) nd.1
  | tail _ m=>cases hy with
   | head=>exact absurd (e▸List.mem_map_of_mem m) nd.1
   | tail _ m2=>exact ih nd.2 m m2
section
variable {T T':Hp} {lo t dr ep:Nat} {xs:List Nd}
theorem cg.mod (t3:cg T lo t dr ep xs) {x:Nd} (m:x∈xs) (f:En→En) (g:T'.get x.r=some (f x.e).ob) (o:∀ a,a≠x.r→T'.get a=T.get a):cg T' lo t dr ep (upX x.p f xs):=by
 have gx:=t3.he x m
 refine ⟨?_,?_,fun y my=>?_,t3.lt,t3.ld,fun y my=>?_,?_,?_,?_⟩
 ·rw [o _ (aJ gx t3.ht rfl)]; exact t3.ht
 ·rw [fZ (fun _=>rfl),o _ (aJ gx t3.hd rfl)]; exact t3.hd
 ·obtain ⟨z,mz,rfl⟩:=List.mem_map.mp my
  by_cases e:z.p=x.p
  ·cases Nd.sameP t3.np mz m e
   rw [if_pos rfl]; exact g
  ·rw [if_neg e,o _ fun q=>e (congrArg Nd.p (Nd.sameR t3.nr mz m q))]
   exact t3.he z mz
 ·obtain ⟨z,mz,rfl⟩:=List.mem_map.mp my
  have:=t3.le z mz
  split
  ·exact this
  ·exact this
 ·rw [fZ (fun _=>rfl)]; exact t3.nr
 ·rw [fZ (fun _=>rfl)]; exact t3.np
 ·unfold upX; rw [LQ]; exact t3.sz
theorem cg.add (t3:cg T lo t dr ep xs) {p:List Nat} {r:Nat} {e:En} (np:p∉xs.map Nd.p) (g:T.get r=some e.ob) (fr:∀ x∈xs,x.r≠r) (lr:lo≤r) (sz:xs.length<59):cg (aI T dr (.dict (dpt (.str p) (.ref r) (xs.map Nd.dc)) (epS (.str p) (xs.map Nd.dc) ep))) lo t dr (ep+1) (xs ++ [⟨p,r,e⟩]):=by
 refine ⟨an t3.hd t3.ht rfl,?_,fun y m=>?_,t3.lt,t3.ld,fun y m=>?_,?_,?_,?_⟩
 ·rw [← pc e np,← sC np]; exact ac t3.hd
 ·rcases List.mem_append.mp m with m | m
  ·exact an t3.hd (t3.he y m) rfl
  ·cases List.mem_singleton.mp m; exact an t3.hd g rfl
 ·rcases List.mem_append.mp m with m | m
  ·exact t3.le y m
  ·cases List.mem_singleton.mp m; exact lr
 ·rw [List.map_append,List.nodup_append]
  refine ⟨t3.nr,nd1,fun a ha b hb=>?_⟩
  refine zEA (List.mem_map.mp ha) fun y m gR0=>?_
  subst gR0
  cases List.mem_singleton.mp hb
  exact fr y m
 ·rw [List.map_append,List.nodup_append]
  refine ⟨t3.np,nd1,fun a ha b hb=>?_⟩
  cases List.mem_singleton.mp hb
  exact fun q=>np ((show a=p from q)▸ha)
 ·rw [List.length_append]; exact Nat.succ_lt_succ sz
theorem tR {p:List Nat} {xs:List Nd} (nd:(xs.map Nd.p).Nodup):ddl (.str p) (xs.map Nd.dc)=(nM p xs).map Nd.dc:=by
 induction xs with
 | nil=>rfl
 | cons x xs ih=>
  have nd:=List.nodup_cons.mp nd
  show (if decide (x.p=p)=true then _ else _)=_
  unfold nM
  by_cases h:x.p=p
  ·rw [if_pos (decide_eq_true h),List.filter_cons_of_neg (by rw [decide_eq_true h]; exact Bool.false_ne_true)]
   rw [List.filter_eq_self.mpr fun y m=>?_]
   have n:¬ y.p=p:=fun e=>nd.1 (by rw [h,← e]; exact List.mem_map_of_mem m)
   rw [decide_eq_false n]; rfl
  ·rw [if_neg fun e=>h (of_decide_eq_true e),List.filter_cons_of_pos (by rw [decide_eq_false h]; rfl),ih nd.2]; rfl
theorem cg.del (t3:cg T lo t dr ep xs) (p:List Nat):cg (aI T dr (.dict (ddl (.str p) (xs.map Nd.dc)) (ep+1))) lo t dr (ep+1) (nM p xs):=by
 have sb:(nM p xs).Sublist xs:=List.filter_sublist
 refine ⟨an t3.hd t3.ht rfl,?_,fun y m=>an t3.hd (t3.he y (sb.subset m)) rfl,t3.lt,t3.ld,fun y m=>t3.le y (sb.subset m),(sb.map _).nodup t3.nr,(sb.map _).nodup t3.np,Nat.lt_of_le_of_lt sb.length_le t3.sz⟩
 rw [← tR t3.np]; exact ac t3.hd
end
noncomputable def KT (lo:Nat):Nat→AO→Prop:=fun r a=>r<lo∨(Nat.beq (kd a) 0=false∧Nat.beq (kd a) (213+6)=false)
theorem KT.noE {lo r:Nat} {e:En} (h:lo≤r):¬ KT lo r e.ob:=fun k=>k.elim (fun q=>Nat.not_lt_of_le h q) fun q=>Bool.noConfusion q.2
theorem KT.noD {lo r ep:Nat} {es:List (AV × AV)} (h:lo≤r):¬ KT lo r (.dict es ep):=fun k=>k.elim (fun q=>Nat.not_lt_of_le h q) fun q=>Bool.noConfusion q.1
inductive Ch where
 | create (p:List Nat) (dt ow le ri:AV) (num:Bool)
 | delete (p:List Nat)
noncomputable def dX (T:Hp) (r:Nat) (ch:Ch):Prop:=match ch with
 | .create p dt ow le ri num=>∃ g,T.get r=some (.tuple [.str [99,114,101,97,116,101],.str p,.ref g])∧T.get g=some (.tuple [dt,ow,le,ri,.bool num])
 | .delete p=>T.get r=some (.tuple [.str [100,101,108,101,116,101],.str p])
noncomputable def cv (rev:Int) (es:Es) (ch:Ch):Es:=match ch with
 | .create p dt ow le ri num=>upE (bZ p) (fX num) es ++ [(p,⟨dt,0,0,ow,le,ri,0,rev,rev⟩)]
 | .delete p=>upE (bZ p) (fX false) (oy p es)
noncomputable def okC (es:Es) (ch:Ch):Prop:=match ch with
 | .create p dt ow le ri num=>OkP p∧p≠[47]∧p∉es.map (·.1)∧es.length<59∧∃ e,(bZ p,e)∈es∧e.own=.none∧e.lea=.none∧num=false
 | .delete p=>OkP p∧p≠[47]∧(∃ e,(p,e)∈es)∧dM p (es.map (·.1))=[]∧(∀ q∈es,OkP q.1)∧bZ p≠p∧∃ e,(bZ p,e)∈es
section
variable {c:Cx} (ok:Ok c) (hG:c.G=G) {d lo t dr ep:Nat} {T:Hp} {xs:List Nd} {es:Es}
include ok hG
theorem uP {p:List Nat} {dt ow le ri:AV} {num:Bool} {rev:Int} {g:Nat} (tr:aB T lo t es) (hg:T.get g=some (.tuple [dt,ow,le,ri,.bool num])) (h:okC es (.create p dt ow le ri num)) (ln:lo≤T.n) (l1:1≤lo):CaP c T 279 [.ref t,.int rev,.str p,.ref g] (d+4) fun u T'=>u=.none∧aB T' lo t (cv rev es (.create p dt ow le ri num))∧Upd T.n (KT lo) T T':=by
 refine gp fun gP gH=>?_
 refine zAAAAEA h fun hp ne np sz e me gC0=>?_
 refine zAA gC0 fun ho hl hnum=>?_
 have hh:=nF ok hG (d:=d+2) tr np
 refine zEEAL (de ok hG (d:=d+1) (T:=T) hp ne) fun T1 h1 u1=>?_
 refine zEEEA tr fun dr ep xs t3 gR0=>?_
 subst gR0
 refine zEA (List.mem_map.mp me) fun x mx q=>?_
 obtain ⟨xp,xr,xe⟩:=x
 apply gH;clear gH
 cases q
 have ta:=t3.all u1
 have h2:=ou ok hG (d:=d+2) ta mx
 have ht:=t3.ht
 have ht1:=ta.ht
 have hd1:=ta.hd
 have ge:=ta.he _ mx
 have lx:=t3.le _ mx
 have lx1:1≤xr:=Nat.le_trans l1 lx
 have ld1:1≤dr:=Nat.le_trans l1 t3.ld
 have hg1:=u1.get trivial hg
 rw [List.map_map] at np
 rw [LQ] at sz
 have ux:Upd T.n (KT lo) T T1:=u1.a
 have fin:∀ {T2 T3:Hp},T2.get xr=some (fX num xe).ob→(∀ a,a≠xr→T2.get a=T1.get a)→T2.n=T1.n→T3.get T2.n=some (En.ob ⟨dt,0,0,ow,le,ri,0,rev,rev⟩)→Upd T2.n All T2 T3→Upd T.n (KT lo) T T2→T3.get dr=some (.dict (xs.map Nd.dc) ep)∧aB (aI T3 dr (.dict (dpt (.str p) (.ref T2.n) (xs.map Nd.dc)) (epS (.str p) (xs.map Nd.dc) ep))) lo t (cv rev (xs.map Nd.pe) (.create p dt ow le ri num))∧Upd T.n (KT lo) T (aI T3 dr (.dict (dpt (.str p) (.ref T2.n) (xs.map Nd.dc)) (epS (.str p) (xs.map Nd.dc) ep))):=by
  intro T2 T3 g2 o2 n2 g3 u3 ux2
  have tb:=ta.mod mx (fX num) g2 o2
  have tc:=tb.all u3
  have td:=tc.add (p:=p) (by rw [fZ (fun _=>rfl)]; exact np) g3 (fun y m=>Nat.ne_of_lt (aP (tb.he y m))) (by rw [n2]; exact Nat.le_trans ln u1.1) (by unfold upX; rw [LQ]; exact sz)
  have hd:=tc.hd
  rw [fZ (fun _=>rfl)] at td hd
  refine ⟨hd,⟨dr,_,_,td,?_⟩,?_⟩
  ·rw [List.map_append,sA]; rfl
  ·exact (ux2.then u3.a (by rw [n2]; exact u1.1)).set (fun _=>KT.noD t3.ld) t3.hd
 refine cA ok (l:=[(1735222900,_),(8030035183836554867,_),(1769300593,_),(478460471912,_)]) (tF hG rfl) rfl fun lz hz Qz hQ=>?_
 have hz0:=hz 1735222900 _ rfl
 have hz1:=hz 8030035183836554867 _ rfl
 have hz2:=hz 1769300593 _ rfl
 have hz3:=hz 478460471912 _ rfl
 clear hz
 ·subst hnum
  refine zEEALAA (fL ok hG (d:=d+1) (T:=aI T1 xr (En.ob (fX false xe))) (dt:=dt) (ow:=ow) (le:=le) (ri:=ri) (ma:=rev) (Nat.le_trans (Nat.le_trans l1 ln) u1.1)) fun T3 h3 g3 u3 n3=>?_
  refine zAA (fin (ac ge) (fun a ne=>gu T1 ne) rfl g3 u3 (ux.set (fun _=>KT.noE lx) (t3.he _ mx))) fun hd3 tf uf=>?_
  have ht3:T3.get t=some (pR dr):=u3.get trivial (an ge ht1 rfl)
  apply am
  apply jp
  refine aE (by trivial) ?_
  refine sZ (by first|exact .inl (by (trivial))|exact .inr (by (trivial))) rfl ?_
  refine aL (bj (t:=false) rfl (bp ok (by (repeat apply aa rfl);assumption) (by trivial) (by exact tM hG rfl) (by exact rfl) (ah (by (repeat apply aa rfl);assumption) ae) (hh))) ?_
  refine aR (bp ok (by (repeat apply aa rfl);assumption) (by trivial) (by exact tM hG rfl) (by exact rfl) (ai (aS ok (tG hG rfl) (tF hG rfl) (ah (by (repeat apply aa rfl);assumption) ae) (h1)) ae) (h2)) ?_
  refine aL (gz (bn (az (t:=false) (aO ok (by exact ak) (by trivial) (by exact tA hG rfl) (by exact rfl)) bG (by rw [ho]; exact bv)) (bn (az (t:=false) (aO ok (by exact ak) (by trivial) (by exact tA hG rfl) (by exact rfl)) bG (by rw [hl]; exact bv)) cB))) ?_
  refine be ok (bB (aO ok (by exact ak) (by trivial) (by exact tA hG rfl) (by exact rfl)) aD (cE)) (by exact ak) (by trivial) (by exact tA hG rfl) (by exact lb rfl) (by first|assumption|exact Nat.le_add_left 1 _|exact lb rfl) ?_
  refine aL (bj (t:=false) rfl (aj (by exact aa rfl ak))) ?_
  apply am
  apply rX
  refine ke ok (tG hG rfl) (tC hG rfl) rfl ?_
  refine aC (by (repeat apply aa rfl);exact ak) ?_
  refine aC (by (repeat apply aa rfl);exact ak) ?_
  refine aC (by exact aa rfl (aa rfl (aa rfl ak))) ?_
  refine aC (by exact aa rfl (aa rfl ak)) ?_
  refine aC (by (repeat apply aa rfl);assumption) ?_
  apply au
  refine bK (h3) ?_
  apply pM
  apply cx ok
  exact (by (repeat apply aa rfl);assumption)
  exact ht3
  exact tA hG rfl
  exact rfl
  refine aE (by (repeat apply aa rfl);assumption) ?_
  apply wg
  exact hd3
  exact cR
  rw [LQ]; exact lt4 (Nat.le_of_lt sz) rfl
  first | assumption | exact Nat.le_add_left 1 _ | exact lb rfl
  apply ax
  apply hQ
  exact ⟨rfl,tf,uf⟩
end
theorem uI {p q:List Nat} {e:En} {es:Es} (m:(q,e)∈es) (ne:q≠p):(q,e)∈oy p es:=List.mem_filter.mpr ⟨m,by rw [decide_eq_false ne]; rfl⟩
section
variable {c:Cx} (ok:Ok c) (hG:c.G=G) {d lo t dr ep:Nat} {T:Hp} {xs:List Nd} {es:Es}
include ok hG
theorem uF {p:List Nat} {rev:Int} (tr:aB T lo t es) (h:okC es (.delete p)) (ln:lo≤T.n) (l1:1≤lo):CaP c T 286 [.ref t,.str p] (d+4) fun u T'=>u=.none∧aB T' lo t (cv rev es (.delete p))∧Upd T.n (KT lo) T T':=by
 refine gp fun gP gH=>?_
 refine zAAAAAA h fun hp ne gN0 hk hok pn gC0=>?_
 refine zE gC0 fun e0 m0=>?_
 obtain ⟨e,me⟩:=gN0
 refine zEA (cC ok hG (d:=d+2) tr me) fun r0 he ge=>?_
 refine zEEAELA (hR ok hG (d:=d) (m:=[]) tr me (Nat.le_trans l1 ln) hok (by rw [hk]) List.Pairwise.nil) fun T1 r1 h1 g1 u1=>?_
 refine zEEEA tr fun dr ep xs t3 gR0=>?_
 subst gR0
 have ta:=t3.all u1
 have hd1:=ta.hd
 have ht1:=ta.ht
 have ht:=t3.ht
 have tb:=ta.del p
 have ld1:1≤dr:=Nat.le_trans l1 t3.ld
 refine zEA (List.mem_map.mp me) fun x mx q=>?_
 apply gH;clear gH
 cases q
 have dx:=dY mx t3.np
 refine zEEAL (de ok hG (d:=d+1) (T:=aI T1 dr (.dict (ddl (.str x.p) (xs.map Nd.dc)) (ep+1))) hp ne) fun T2 h2 u2=>?_
 have tc:=tb.all u2
 have m1:(bZ x.p,e0)∈(nM x.p xs).map Nd.pe:=by rw [pz]; exact uI m0 pn
 refine gp fun gP gH=>?_
 refine zEA (List.mem_map.mp m1) fun y my qy=>?_
 obtain ⟨yp,yr,ye⟩:=y
 apply gH;clear gH
 cases qy
 have h3:=ou ok hG (d:=d+2) tc my
 have gy:=tc.he _ my
 have ly:=tc.le _ my
 have ly1:1≤yr:=Nat.le_trans l1 ly
 have ht2:=tc.ht
 have td:=tc.mod my (fX false) (T':=aI T2 yr (En.ob (fX false ye))) (ac gy) (fun a ne=>gu T2 ne)
 refine cA ok (l:=[(1735222900,_),(1769300593,_)]) (tF hG rfl) rfl fun lz hz Qz hQ=>?_
 have hz0:=hz 1735222900 _ rfl
 have hz1:=hz 1769300593 _ rfl
 clear hz
 refine aV (bp ok (by trivial) (by trivial) (by exact tM hG rfl) (by exact rfl) (ah (by trivial) ae) (he)) ?_
 refine aL (az (t:=false) (aj (by trivial)) aQ (by exact bf (d8 ne))) ?_
 refine aL (az (t:=false) (aN ok (tG hG rfl) (.inl ⟨_,rfl⟩) (ai (bp ok (by trivial) (by trivial) (by exact tM hG rfl) (by exact rfl) (ah (by trivial) ae) (h1)) ae) (by first|exact cO (by (trivial)) (lb rfl)|exact gQ (by (trivial)) (lb rfl)|exact gR (lb rfl))) aD (jd)) ?_
 apply am
 apply oa
 apply cx ok
 exact (by trivial)
 ·trivial
 exact tA hG rfl
 exact rfl
 refine aE (by trivial) ?_
 apply wp
 ·trivial
 exact cR
 rw [LQ]; exact lt4 (Nat.le_of_lt t3.sz) rfl
 exact dx
 first | assumption | exact Nat.le_add_left 1 _ | exact lb rfl
 refine aR (bp ok (by trivial) (by exact an ‹_› ‹_› rfl) (by exact tM hG rfl) (by exact rfl) (ai (aS ok (tG hG rfl) (tF hG rfl) (ah (by trivial) ae) (h2)) ae) (h3)) ?_
 refine be ok (bB (aO ok (by exact ak) (by trivial) (by exact tA hG rfl) (by exact rfl)) aD (cE)) (by exact ak) (by trivial) (by exact tA hG rfl) (by exact lb rfl) (by first|assumption|exact Nat.le_add_left 1 _|exact lb rfl) ?_
 apply ax
 apply hQ
 have mz:(⟨bZ x.p,yr,ye⟩:Nd)∈xs:=(List.filter_sublist (l:=xs)).subset my
 refine ⟨rfl,⟨dr,_,_,td,?_⟩,?_⟩
 ·rw [sA,pz]; rfl
 ·exact ((u1.a.set (fun _=>KT.noD t3.ld) t3.hd).then u2.a u1.1).set (fun _=>KT.noE ly) (t3.he _ mz)
theorem iX {ch:Ch} {rev:Int} {cr:Nat} (tr:aB T lo t es) (hc:dX T cr ch) (h:okC es ch) (ln:lo≤T.n) (l1:1≤lo):CaP c T 272 [.ref t,.int rev,.ref cr] (d+5) fun u T'=>u=.none∧aB T' lo t (cv rev es ch)∧Upd T.n (KT lo) T T':=by
 refine zEEEA (id tr) fun dr ep xs t3 hx=>?_
 have ht:=t3.ht
 cases ch with
 | create p dt ow le ri num=>
  refine gp fun gP gH=>?_
  obtain ⟨g,hc,hg⟩:=hc
  refine zEEALA (uP ok hG (d:=d) (rev:=rev) (T:=aq T (.tuple [.str [99,114,101,97,116,101],.str p])) (tr.all Upd.refl.new) (af hg) h (Nat.le_succ_of_le ln) l1) fun T1 h1 t1 u1=>?_
  apply gH;clear gH
  refine cA ok (l:=[(1735222900,_),(8030035183836554867,_),(112598731352420,_)]) (tF hG rfl) rfl fun lz hz Qz hQ=>?_
  have hz0:=hz 1735222900 _ rfl
  have hz1:=hz 8030035183836554867 _ rfl
  have hz2:=hz 112598731352420 _ rfl
  clear hz
  apply am
  apply kB
  apply cJ
  apply aA
  apply cL
  refine aE (by trivial) ?_
  apply bw
  refine ej (by first|exact cy (j:=0) (by (trivial)) rfl (lb rfl)|exact bR (j:=0) (by (trivial)) rfl (lb rfl)) ?_
  apply aA
  apply cL
  refine aE (by trivial) ?_
  apply bw
  refine ej (by first|exact cy (j:=1) (by (trivial)) rfl (lb rfl)|exact bR (j:=1) (by (trivial)) rfl (lb rfl)) ?_
  apply au
  refine d0 (lb rfl) ?_
  apply uT
  ·exact (ag _ _)
  exact rfl
  refine bF (az (t:=true) (aj (by exact ak)) aQ (bf rfl)) ?_
  refine aV (bp ok (by exact aa rfl (aa rfl ‹_›)) (by exact af ‹_›) (by exact tM hG rfl) (by exact rfl) (ah (by exact aa rfl (aa rfl ‹_›)) (ah (by exact aa rfl ak) (ai (di (aj (by exact aa rfl (aa rfl ‹_›))) aD (by first|exact cy (j:=2) (by exact af ‹_›) rfl (lb rfl)|exact bR (j:=2) (by (trivial)) rfl (lb rfl))) ae))) (h1)) ?_
  apply ax
  apply ax
  apply hQ
  exact ⟨rfl,t1,Upd.refl.new.then u1 (Nat.le_succ _)⟩
 | delete p=>
  have hc:T.get cr=some (.tuple [.str [100,101,108,101,116,101],.str p]):=hc
  refine zEEALA (uF ok hG (d:=d) (rev:=rev) (T:=aq T (.tuple [.str [100,101,108,101,116,101],.str p])) (tr.all Upd.refl.new) h (Nat.le_succ_of_le ln) l1) fun T1 h1 t1 u1=>?_
  refine cA ok (l:=[(1735222900,_),(8030035183836554867,_),(112598731352420,_)]) (tF hG rfl) rfl fun lz hz Qz hQ=>?_
  have hz0:=hz 1735222900 _ rfl
  have hz1:=hz 8030035183836554867 _ rfl
  have hz2:=hz 112598731352420 _ rfl
  clear hz
  apply am
  apply kB
  apply cJ
  apply aA
  apply cL
  refine aE (by trivial) ?_
  apply bw
  refine ej (by first|exact cy (j:=0) (by (trivial)) rfl (lb rfl)|exact bR (j:=0) (by (trivial)) rfl (lb rfl)) ?_
  apply aA
  apply cL
  refine aE (by trivial) ?_
  apply bw
  refine ej (by first|exact cy (j:=1) (by (trivial)) rfl (lb rfl)|exact bR (j:=1) (by (trivial)) rfl (lb rfl)) ?_
  apply au
  refine d0 (lb rfl) ?_
  apply uT
  ·exact (ag _ _)
  exact rfl
  refine hW (az (t:=false) (aj (by exact ak)) aQ (bf rfl)) ?_
  refine hW (az (t:=false) (aj (by exact ak)) aQ (bf rfl)) ?_
  refine bF (az (t:=true) (aj (by exact ak)) aQ (bf rfl)) ?_
  refine aV (bp ok (by exact aa rfl (aa rfl ‹_›)) (by exact af ‹_›) (by exact tM hG rfl) (by exact rfl) (ah (by exact aa rfl ak) ae) (h1)) ?_
  apply ax
  apply ax
  apply ax
  apply ax
  apply hQ
  exact ⟨rfl,t1,Upd.refl.new.then u1 (Nat.le_succ _)⟩
end
structure SF where
 tree:Nat
 log:Nat
 tick:Int
 rev:Int
 ses:Nat
 lea:Nat
 wat:Nat
 cnt:Int
noncomputable abbrev SF.ob (f:SF):AO:=.inst 727 [(1717990261,.ref f.tree),(6844525,.ref f.log),(1902536300,.none),(1818520181,.int f.tick),(8030035183836554867,.int f.rev),(8390048233337153140,.ref f.ses),(127983388092013,.ref f.lea),(32763700141449848,.ref f.wat),(504381206628,.int f.cnt)]
structure Sn where
 num:Int
 r:Nat
 u:List Nat
 tmo:Int
noncomputable abbrev Sn.dc (x:Sn):AV × AV:=(.int x.num,.ref x.r)
noncomputable abbrev Sn.ob (x:Sn) (h:Int):AO:=.inst 162 [(126883592042095,.int x.num),(1936094326,.str x.u),(33062797402073717,.int x.tmo),(435727525481,.int h)]
theorem dy {x:Sn} {ss:List Sn} (m:x∈ss) (nd:(ss.map Sn.num).Nodup):dlk (.int x.num) (ss.map Sn.dc)=some (.ref x.r):=by
 induction ss with
 | nil=>cases m
 | cons y ss ih=>
  show (if decide (y.num=x.num)=true then _ else _)=_
  have nd:=List.nodup_cons.mp nd
  cases m with
  | head=>rw [if_pos (decide_eq_true rfl)]
  | tail _ m=>
   have n:y.num≠x.num:=fun e=>nd.1 (e▸List.mem_map_of_mem m)
   rw [if_neg fun e=>n (of_decide_eq_true e)]
   exact ih m nd.2
theorem bO {n:Int} {ss:List Sn}:kOk (.int n) (ss.map Sn.dc)=true:=by cases ss <;> rfl
noncomputable def KD (lo cl:Nat):Nat→AO→Prop:=fun r a=>r≠cl∧KT lo r a
theorem KD.of {n lo cl:Nat} {T T':Hp} (u:Upd n (KT lo) T T'):Upd n (KD lo cl) T T':=u.weak (Nat.le_refl _) fun _ _ p=>p.2
section
variable {c:Cx} (ok:Ok c) (hG:c.G=G) {d lo t s:Nat} {T:Hp} {es:Es} {sf:SF}
include ok hG
theorem ve {ch:Ch} {cr cl:Nat} {ys:List AV} (hs:T.get s=some sf.ob) (tr:aB T lo t es) (hc:dX T cr ch) (h:okC es ch) (hl:T.get cl=some (.list ys)) (sz:ys.length<60) (ln:lo≤T.n) (l1:1≤lo) (l2:1≤cl):CaP c T 681 [.ref s,.ref t,.ref cl,.ref cr] (d+6) fun u T'=>u=.none∧aB T' lo t (cv (sf.rev+1) es ch)∧T'.get cl=some (.list (ys ++ [.ref cr]))∧Upd T.n (KD lo cl) T T':=by
 refine zEEALA (iX ok hG (d:=d) (rev:=sf.rev+1) tr hc h ln l1) fun T1 h1 t1 u1=>?_
 refine zEEEA (id tr) fun dr ep xs t3 hx=>?_
 have ht:=t3.ht
 have hl1:T1.get cl=some (.list ys):=u1.get (.inr ⟨rfl,rfl⟩) hl
 refine aH ok (l:=[(1735222900,_),(1717990261,_),(32763696029788516,_),(112598731352420,_)]) (tF hG rfl) rfl fun Qz hQ=>?_
 refine aV (bp ok rfl (by trivial) (by exact tM hG rfl) (by exact rfl) (ai (bB (aO ok rfl (by trivial) (by exact tA hG rfl) (by exact rfl)) aD (cE)) (ah rfl ae)) (h1)) ?_
 refine aV (bH (aj rfl) (dq hl1) (ah rfl ae) (dw hl1 (Nat.lt_trans sz (lb rfl)) l2)) ?_
 apply ax
 apply hQ
 refine zEEEA (id t1) fun dr ep xs t3 hx=>?_
 refine ⟨rfl,⟨dr,ep,xs,{ t3 with ht:=an hl1 t3.ht rfl,hd:=an hl1 t3.hd rfl,he:=fun x m=>an hl1 (t3.he x m) rfl },hx⟩,ac hl1,(KD.of u1).set (fun _ k=>k.1 rfl) hl⟩
theorem dT {x:Sn} {ss:List Sn} {ep:Nat} {hh:Int} (hs:T.get s=some sf.ob) (hd:T.get sf.ses=some (.dict (ss.map Sn.dc) ep)) (m:x∈ss) (nd:(ss.map Sn.num).Nodup) (g:T.get x.r=some (x.ob hh)) (l1:1≤x.r):Ca c 494 [.ref s,.int x.num] (d+1) T (.ref x.r) (aI T x.r (x.ob sf.tick)):=by
 have q:=dy m nd
 have:CaP c T 494 [.ref s,.int x.num] (d+1) fun u T'=>u=.ref x.r∧T'=aI T x.r (x.ob sf.tick):=by
  refine aH ok (l:=[(1735222900,_),(126883592042095,_)]) (tF hG rfl) rfl fun Qz hQ=>?_
  refine aL (gz (bn (az (t:=false) (aN ok (tG hG rfl) (.inr ⟨_,rfl⟩) (ah rfl ae) (by first|exact dE|exact dA|exact dz (by (trivial)))) (dk ok (tG hG rfl)) (by first|exact bv|exact bN rfl|exact bX)) (bn (az (t:=false) (aj rfl) (aO ok rfl (by trivial) (by exact tA hG rfl) (by exact rfl)) (by exact cmt (nZ hd bO) (by rw [q]; rfl))) cB))) ?_
  apply am
  apply wZ ok
  apply cx ok
  exact rfl
  ·trivial
  exact tA hG rfl
  exact rfl
  apply cL
  apply cx ok
  exact rfl
  ·trivial
  exact tA hG rfl
  exact rfl
  refine aE rfl ?_
  refine ej (cQ hd bO q) ?_
  apply xk
  ·trivial
  exact tA hG rfl
  exact lb rfl
  first | assumption | exact Nat.le_add_left 1 _ | exact lb rfl
  refine aK (di (aO ok rfl (by exact an ‹_› ‹_› rfl) (by exact tA hG rfl) (by exact rfl)) (aj rfl) (cQ (an g hd rfl) bO q)) ?_
  apply hQ
  exact ⟨rfl,rfl⟩
 refine zEEAL this fun _ h gR0=>?_
 subst gR0
 exact h
end
theorem dX.upd {T T':Hp} {P:Nat→AO→Prop} {r:Nat} {ch:Ch} (h:dX T r ch) (u:Upd T.n P T T') (hp:∀ x vs,T.get x=some (.tuple vs)→P x (.tuple vs)):dX T' r ch:=by
 cases ch with
 | create p dt ow le ri num=>obtain ⟨g,h1,h2⟩:=h; exact ⟨g,u.get (hp _ _ h1) h1,u.get (hp _ _ h2) h2⟩
 | delete p=>exact u.get (hp _ _ h) h
noncomputable abbrev crC (q data:List Nat) (van:Bool) (nb:Int):Ch:=.create q (.str data) (cond van (.int nb) .none) .none .none false
section
variable {c:Cx} (ok:Ok c) (hG:c.G=G) {d lo t s:Nat} {T:Hp} {es:Es} {sf:SF}
include ok hG
theorem s9 {p u data:List Nat} {van:Bool} {rr cl:Nat} {nb:Int} {ys:List AV} (hs:T.get s=some sf.ob) (tr:aB T lo t es) (hr:T.get rr=some (.list [.str data,.bool van,.bool false,.none,.none])) (hp:OkP p) (ne:p≠[47]) (rc:Rch es (bZ p)) (hu:u≠[42]) (h:okC es (crC p data van nb)) (hl:T.get cl=some (.list ys)) (sz:ys.length<60) (ln:lo≤T.n) (l1:1≤lo) (l2:1≤cl):CaP c T 674 [.ref s,.int nb,.str u,.ref t,.str p,.ref rr,.ref cl] (d+8) fun v T'=>v=.str p∧∃ cr,aB T' lo t (cv (sf.rev+1) es (crC p data van nb))∧T'.get cl=some (.list (ys ++ [.ref cr]))∧dX T' cr (crC p data van nb)∧Upd T.n (KD lo cl) T T':=by
 refine gp fun gP gH=>?_
 refine zEEAL (de ok hG (d:=d+5) (T:=T) hp ne) fun T1 h1 u1=>?_
 refine zEEAL (cK ok hG (d:=d+1) (x:=99) (tr.all u1) rc hu rfl) fun T3 h2 u2=>?_
 have u3:Upd T.n All T T3:=u1.then u2 u1.1
 have ca:dX (aq (aq T3 (.tuple [.str data,cond van (.int nb) .none,.none,.none,.bool false])) (.tuple [.str [99,114,101,97,116,101],.str p,.ref T3.n])) (aq T3 (.tuple [.str data,cond van (.int nb) .none,.none,.none,.bool false])).n (crC p data van nb):=⟨T3.n,ag _ _,af (ag _ _)⟩
 have ux:=(u3.new (o:=.tuple [.str data,cond van (.int nb) .none,.none,.none,.bool false])).new (o:=.tuple [.str [99,114,101,97,116,101],.str p,.ref T3.n])
 refine zEEALAA (ve ok hG (d:=d+1) (ux.get trivial hs) (tr.all ux) ca h (ux.get trivial hl) sz (Nat.le_trans ln ux.1) l1 l2) fun T' h5 t5 g5 u5=>?_
 refine zEEEA (id tr) fun dr ep xs t3 hx=>?_
 apply gH;clear gH
 have ht2:=(t3.all u3).ht
 have hs2:=u3.get trivial hs
 have fin:∃ cr,aB T' lo t (cv (sf.rev+1) es (crC p data van nb))∧T'.get cl=some (.list (ys ++ [.ref cr]))∧dX T' cr (crC p data van nb)∧Upd T.n (KD lo cl) T T':=⟨_,t5,g5,ca.upd u5 fun x vs g=>⟨aJ (ux.get trivial hl) g rfl,.inr ⟨rfl,rfl⟩⟩,ux.a.then u5 ux.1⟩
 clear ca t5 g5
 refine cA ok (l:=[(1735222900,_),(126883592042095,_),(1936094326,_),(1717990261,_),(1769300593,_),(1970562675,_),(32763696029788516,_)]) (tF hG rfl) rfl fun lz hz Qz hQ=>?_
 have hz0:=hz 1735222900 _ rfl
 have hz1:=hz 126883592042095 _ rfl
 have hz2:=hz 1936094326 _ rfl
 have hz3:=hz 1717990261 _ rfl
 have hz4:=hz 1769300593 _ rfl
 have hz5:=hz 1970562675 _ rfl
 have hz6:=hz 32763696029788516 _ rfl
 clear hz
 cases van with
 | false=>
  apply am
  apply jp
  refine aE (by trivial) ?_
  refine sZ (.inr hr) rfl ?_
  refine aL (az (t:=false) (aN ok (tG hG rfl) (.inr ⟨_,rfl⟩) (ah (by (repeat apply aa rfl);exact ak) ae) (by first|exact dE|exact dA|exact dz (by (trivial)))) (dk ok (tG hG rfl)) (by first|exact bv|exact bN rfl|exact bX)) ?_
  refine aR (aS ok (tG hG rfl) (tF hG rfl) (ah (by (repeat apply aa rfl);assumption) ae) (h1)) ?_
  refine aV (aS ok (tG hG rfl) (tF hG rfl) (ah (by (repeat apply aa rfl);assumption) (ah (by exact ak) (ah (by (repeat apply aa rfl);assumption) (ai aQ ae)))) (h2)) ?_
  refine aL (bj (t:=false) rfl (aj (by exact aa rfl (aa rfl (aa rfl ak))))) ?_
  refine aR bG ?_
  refine aL (bj (t:=false) rfl (aj (by (repeat apply aa rfl);exact ak))) ?_
  refine aL (az (t:=false) (aj (by exact aa rfl (aa rfl (aa rfl ak)))) bG (by first|exact bv|exact bN rfl|exact bX)) ?_
  refine aR (bW (ah (by (repeat apply aa rfl);exact ak) (ah (by exact ak) (ah (by exact aa rfl (aa rfl (aa rfl ak))) (ai (aS ok (tG hG rfl) (tF hG rfl) (ah (by exact aa rfl (aa rfl ak)) ae) (et ok hG)) (ai (aN ok (tG hG rfl) (.inr ⟨_,rfl⟩) (ah (by (repeat apply aa rfl);exact ak) ae) (qJ)) ae))))) (lb rfl)) ?_
  refine aV (bp ok (by (repeat apply aa rfl);assumption) (by exact af ‹_›) (by exact tM hG rfl) (by exact rfl) (ah (by (repeat apply aa rfl);assumption) (ah (by (repeat apply aa rfl);assumption) (ai (bW (ai aQ (ah (by (repeat apply aa rfl);assumption) (ah (by exact ak) ae))) (lb rfl)) ae))) (h5)) ?_
  refine aK (aj (by (repeat apply aa rfl);assumption)) ?_
  apply hQ
  exact ⟨rfl,fin⟩
 | true=>
  apply am
  apply jp
  refine aE (by trivial) ?_
  refine sZ (.inr hr) rfl ?_
  refine aL (az (t:=false) (aN ok (tG hG rfl) (.inr ⟨_,rfl⟩) (ah (by (repeat apply aa rfl);exact ak) ae) (by first|exact dE|exact dA|exact dz (by (trivial)))) (dk ok (tG hG rfl)) (by first|exact bv|exact bN rfl|exact bX)) ?_
  refine aR (aS ok (tG hG rfl) (tF hG rfl) (ah (by (repeat apply aa rfl);assumption) ae) (h1)) ?_
  refine aV (aS ok (tG hG rfl) (tF hG rfl) (ah (by (repeat apply aa rfl);assumption) (ah (by exact ak) (ah (by (repeat apply aa rfl);assumption) (ai aQ ae)))) (h2)) ?_
  refine aL (bj (t:=false) rfl (aj (by exact aa rfl (aa rfl (aa rfl ak))))) ?_
  refine aR bG ?_
  refine bF (bj (t:=true) rfl (aj (by (repeat apply aa rfl);exact ak))) ?_
  refine aR (aj (by (repeat apply aa rfl);assumption)) ?_
  apply ax
  refine aL (az (t:=false) (aj (by (repeat apply aa rfl);exact ak)) bG (by first|exact bv|exact bN rfl|exact bX)) ?_
  refine aR (bW (ah (by (repeat apply aa rfl);exact ak) (ah (by exact ak) (ah (by (repeat apply aa rfl);exact ak) (ai (aS ok (tG hG rfl) (tF hG rfl) (ah (by exact aa rfl (aa rfl (aa rfl ak))) ae) (et ok hG)) (ai (aN ok (tG hG rfl) (.inr ⟨_,rfl⟩) (ah (by (repeat apply aa rfl);exact ak) ae) (qJ)) ae))))) (lb rfl)) ?_
  refine aV (bp ok (by (repeat apply aa rfl);assumption) (by exact af ‹_›) (by exact tM hG rfl) (by exact rfl) (ah (by (repeat apply aa rfl);assumption) (ah (by (repeat apply aa rfl);assumption) (ai (bW (ai aQ (ah (by (repeat apply aa rfl);assumption) (ah (by exact ak) ae))) (lb rfl)) ae))) (h5)) ?_
  refine aK (aj (by (repeat apply aa rfl);assumption)) ?_
  apply hQ
  exact ⟨rfl,fin⟩
end
noncomputable def jX (c:Cx) (d s:Nat) (nb:Int) (u:List Nat) (sf:SF) (es:Es) (stp:List AV) (ans:AV) (ch:Ch):Prop:=
 ∀ (H:Hp) (lo t st cl:Nat) (ys:List AV),H.get s=some sf.ob→aB H lo t es→H.get st=some (.tuple stp)→H.get cl=some (.list ys)→ys.length<60→1≤lo→lo≤H.n→1≤cl →
  CaP c H 667 [.ref s,.int nb,.str u,.ref t,.ref st,.ref cl] d fun v T'=>v=ans∧∃ cr,aB T' lo t (cv (sf.rev+1) es ch)∧T'.get cl=some (.list (ys ++ [.ref cr]))∧dX T' cr ch∧Upd H.n (KD lo cl) H T'
noncomputable abbrev crD:List AV:=[.str [],.bool false,.bool false,.none,.none]
section
variable {c:Cx} (ok:Ok c) (hG:c.G=G) {d lo t s:Nat} {T:Hp} {es:Es} {sf:SF}
include ok hG
theorem hY {p u:List Nat} {van:Bool} {nb:Int} {tl:List AV} (hp:OkP p) (ne:p≠[47]) (rc:Rch es (bZ p)) (hu:u≠[42]) (ht:tl.length≤5) (hd:tl ++ crD.drop tl.length=[.str [],.bool van,.bool false,.none,.none]) (h:okC es (crC p [] van nb)):jX c (d+9) s nb u sf es (.str [99,114,101,97,116,101] :: .str p :: tl) (.str p) (crC p [] van nb):=by
 intro H lo t st cl ys hs tr hst hl hy l1 ln l2
 refine zEEAL (dZ ok hG (d:=d+7) (T:=H) hp) fun T1 h1 u1=>?_
 have hst1:=u1.get trivial hst
 have hs1:=u1.get trivial hs
 have hl1:=u1.get trivial hl
 have n1:1≤T1.n:=Nat.le_trans l1 (Nat.le_trans ln u1.1)
 have t4:tl.length<1000:=Nat.lt_of_le_of_lt ht (lb rfl)
 refine cA ok (l:=[(1735222900,_),(126883592042095,_),(1936094326,_),(1717990261,_),(1902540148,_),(32763696029788516,_)]) (tF hG rfl) rfl fun lz hz Qz hQ=>?_
 have hz0:=hz 1735222900 _ rfl
 have hz1:=hz 126883592042095 _ rfl
 have hz2:=hz 1936094326 _ rfl
 have hz3:=hz 1717990261 _ rfl
 have hz4:=hz 1902540148 _ rfl
 have hz5:=hz 32763696029788516 _ rfl
 clear hz
 apply am
 apply kB
 apply cJ
 apply aA
 apply cL
 refine aE (by trivial) ?_
 apply bw
 refine ej (by first|exact cy (j:=0) (by (trivial)) rfl (lb rfl)|exact bR (j:=0) (by (trivial)) rfl (lb rfl)) ?_
 apply aA
 refine cX ok (tG hG rfl) (tF hG rfl) ?_
 apply aA
 apply cL
 refine aE (by trivial) ?_
 apply bw
 refine ej (by first|exact cy (j:=1) (by (trivial)) rfl (lb rfl)|exact bR (j:=1) (by (trivial)) rfl (lb rfl)) ?_
 apply au
 refine bK (h1) ?_
 apply au
 refine d0 (lb rfl) ?_
 apply uT
 ·exact (ag _ _)
 exact rfl
 refine aR (aN ok (tG hG rfl) (.inr ⟨_,rfl⟩) (ai (eM (aj (by exact aa rfl (aa rfl ‹_›))) aD (oC (k:=2) (by exact af ‹_›) (Nat.lt_of_le_of_lt (Nat.add_le_add_right ht 2) (lb rfl)) (lb rfl) (Nat.le_add_left 2 _))) ae) (pg (xs:=tl) (ag _ _) (lt4 ht rfl))) ?_
 apply am
 apply dj
 apply aT
 refine bA ok (tG hG rfl) (by first | exact .inl ⟨_,rfl⟩ | exact .inr ⟨_,rfl⟩) ?_
 refine aC (by exact ak) ?_
 apply au
 refine eF (cO (by exact (ag _ _)) (lt4 ht rfl)) ?_
 apply cL
 apply kD ok
 apply bM
 apply aY
 apply bw
 apply bM
 apply aY
 apply bw
 apply bM
 apply aY
 apply bw
 apply bM
 apply aY
 apply bw
 apply bM
 apply aY
 apply bw
 apply lB
 apply tZ
 ·exact (ag _ _)
 exact Nat.ble_eq_true_of_le (by first | assumption | exact Nat.le_add_left 1 _ | exact lb rfl)
 exact rfl
 exact List.cons_ne_nil _ _
 exact rfl
 refine aE (by exact aa rfl ak) ?_
 refine ej (cQ (show Hp.get _ _=some (.dict [(.str [99,104,101,99,107],.int 1),(.str [99,114,101,97,116,101],.int 5),(.str [115,101,116],.int 2),(.str [100,101,108,101,116,101],.int 1),(.str [103,101,116],.int 0)] 5) from ac (by exact (ag _ _))) rfl rfl) ?_
 refine bE false (cmt jd (decide_eq_false (Int.not_lt.mpr (Int.ofNat_le.mpr ht)))) ?_
 apply ax
 refine bF (az (t:=true) (aj (by exact aa rfl ak)) aQ (bf rfl)) ?_
 refine aR (bB (aj (by exact ak)) (eM (cT (ai aQ (ai iU (ai iU (ai bG (ai bG ae))))) (lb rfl)) (aN ok (tG hG rfl) (.inl ⟨_,rfl⟩) (ah (by exact ak) ae) (cO (by exact af (an (ag _ _) (af (ag _ _)) rfl)) (lt4 ht rfl))) (wt (by exact (ag _ _)) (lb rfl) (nC _ _))) (wR (by exact af (af (an (ag _ _) (af (ag _ _)) rfl))) (by exact (ag _ _)) (Nat.lt_of_le_of_lt (Nat.add_le_add ht (Nat.le_trans (by rw [List.length_drop]; exact Nat.sub_le _ _) (lb rfl:crD.length≤5))) (lb rfl)))) ?_
 have ux:Upd H.n All H T1:=u1
 apply am
 apply iW
 apply cD ok
 exact (by (repeat apply aa rfl);assumption)
 ·with_reducible repeat' first|assumption|exact ag _ _|apply ac|apply af|apply an|with_unfolding_all rfl
 exact tM hG rfl
 exact rfl
 refine aC (by (repeat apply aa rfl);assumption) ?_
 refine aC (by (repeat apply aa rfl);assumption) ?_
 refine aC (by (repeat apply aa rfl);assumption) ?_
 refine aC (by exact aa rfl (aa rfl (aa rfl ak))) ?_
 refine aC (by exact ak) ?_
 refine aC (by (repeat apply aa rfl);assumption) ?_
 apply au
 refine CaP.imp (s9 ok hG (d:=d) (by with_reducible repeat' first|assumption|exact ag _ _|apply ac|apply af|apply an|with_unfolding_all rfl) (tr.all (by (with_reducible repeat' first|assumption|exact Upd.refl|apply Upd.new|apply Upd.put|apply Upd.leA))) (by rw [← hd]; exact ag _ _) hp ne rc hu h (by with_reducible repeat' first|assumption|exact ag _ _|apply ac|apply af|apply an|with_unfolding_all rfl) hy (Nat.le_trans ln (Upd.leA (by (with_reducible repeat' first|assumption|exact Upd.refl|apply Upd.new|apply Upd.put|apply Upd.leA)))) l1 l2) ?_
 intro _ T9 gX0
 refine zAEAAA gX0 fun gR0 cr r1 r2 r3 r4=>?_
 clear gX0
 subst gR0
 apply hQ
 refine ⟨rfl,cr,r1,r2,r3,Upd.then (Upd.a ?_) r4 (Upd.leA ?_)⟩
 ·(with_reducible repeat' first|assumption|exact Upd.refl|apply Upd.new|apply Upd.put|apply Upd.leA)
 ·(with_reducible repeat' first|assumption|exact Upd.refl|apply Upd.new|apply Upd.put|apply Upd.leA)
end
section
variable {c:Cx} (ok:Ok c) (hG:c.G=G) {d lo t s:Nat} {T:Hp} {es:Es} {sf:SF}
include ok hG
theorem nR {p:List Nat} {e:En} (tr:aB T lo t es) (m:(p,e)∈es) (hv:e.ver≠-1):Ca c 738 [.ref t,.str p,.none] (d+2) T (.int e.ver) T:=by
 have hh:=iC ok hG (d:=d) tr m
 refine zEA (cC ok hG (d:=d) tr m) fun r he ge=>?_
 refine zEEEA (id tr) fun dr ep xs t3 hx=>?_
 have ht:=t3.ht
 have:CaP c T 738 [.ref t,.str p,.none] (d+2) fun u T'=>u=.int e.ver∧T'=T:=by
  refine aH ok (l:=[(1717990261,_),(1769300593,_),(31367324937447031,_)]) (tF hG rfl) rfl fun Qz hQ=>?_
  refine aR (sj aD) ?_
  refine bF (bj (t:=true) rfl (bp ok rfl (by trivial) (by exact tM hG rfl) (by exact rfl) (ah rfl ae) (hh))) ?_
  refine aR (fC ok (bp ok rfl (by trivial) (by exact tM hG rfl) (by exact rfl) (ah rfl ae) (he)) (by trivial) (by exact tA hG rfl) (by exact rfl)) ?_
  apply ax
  refine aL (bQ (aZ (az (t:=false) (aj rfl) bG (by first | exact bv | exact bN rfl | exact bX)))) ?_
  refine aL (bQ (aZ (az (t:=false) (aj rfl) (sj aD) (by exact bf (congrArg some (decide_eq_false hv)))))) ?_
  refine aK (aj rfl) ?_
  apply hQ
  exact ⟨rfl,rfl⟩
 refine zEEAL this fun _ h gR0=>?_
 subst gR0
 exact h
theorem mK {p u:List Nat} {nb:Int} {e:En} (hp:OkP p) (rc:Rch es p) (hu:u≠[42]) (m:(p,e)∈es) (hv:e.ver≠-1) (h:okC es (.delete p)):jX c (d+8) s nb u sf es [.str [100,101,108,101,116,101],.str p] .none (.delete p):=by
 intro H lo t st cl ys hs tr hst hl hy l1 ln l2
 refine zEEAL (dZ ok hG (d:=d+6) (T:=H) hp) fun T1 h1 u1=>?_
 have hst1:=u1.get trivial hst
 have hs1:=u1.get trivial hs
 have hl1:=u1.get trivial hl
 have n1:1≤T1.n:=Nat.le_trans l1 (Nat.le_trans ln u1.1)
 refine cA ok (l:=[(1735222900,_),(126883592042095,_),(1936094326,_),(1717990261,_),(1902540148,_),(32763696029788516,_)]) (tF hG rfl) rfl fun lz hz Qz hQ=>?_
 have hz0:=hz 1735222900 _ rfl
 have hz1:=hz 126883592042095 _ rfl
 have hz2:=hz 1936094326 _ rfl
 have hz3:=hz 1717990261 _ rfl
 have hz4:=hz 1902540148 _ rfl
 have hz5:=hz 32763696029788516 _ rfl
 clear hz
 apply am
 apply kB
 apply cJ
 apply aA
 apply cL
 refine aE (by trivial) ?_
 apply bw
 refine ej (by first|exact cy (j:=0) (by (trivial)) rfl (lb rfl)|exact bR (j:=0) (by (trivial)) rfl (lb rfl)) ?_
 apply aA
 refine cX ok (tG hG rfl) (tF hG rfl) ?_
 apply aA
 apply cL
 refine aE (by trivial) ?_
 apply bw
 refine ej (by first|exact cy (j:=1) (by (trivial)) rfl (lb rfl)|exact bR (j:=1) (by (trivial)) rfl (lb rfl)) ?_
 apply au
 refine bK (h1) ?_
 apply au
 refine d0 (lb rfl) ?_
 apply uT
 ·exact (ag _ _)
 exact rfl
 refine aR (aN ok (tG hG rfl) (.inr ⟨_,rfl⟩) (ai (eM (aj (by exact aa rfl (aa rfl ‹_›))) aD (oC (k:=2) (by exact af ‹_›) (lb rfl) (lb rfl) (lb rfl))) ae) (pg (by exact (ag _ _)) (lb rfl))) ?_
 apply am
 apply dj
 apply aT
 refine bA ok (tG hG rfl) (by first | exact .inl ⟨_,rfl⟩ | exact .inr ⟨_,rfl⟩) ?_
 refine aC (by exact ak) ?_
 apply au
 refine eF (by first|exact cO (by exact (ag _ _)) (lb rfl)|exact gQ (by (trivial)) (lb rfl)|exact gR (lb rfl)) ?_
 apply cL
 apply kD ok
 apply bM
 apply aY
 apply bw
 apply bM
 apply aY
 apply bw
 apply bM
 apply aY
 apply bw
 apply bM
 apply aY
 apply bw
 apply bM
 apply aY
 apply bw
 apply lB
 apply tZ
 ·exact (ag _ _)
 exact Nat.ble_eq_true_of_le (by first | assumption | exact Nat.le_add_left 1 _ | exact lb rfl)
 exact rfl
 exact List.cons_ne_nil _ _
 exact rfl
 refine aE (by exact aa rfl ak) ?_
 refine ej (cQ (show Hp.get _ _=some (.dict [(.str [99,104,101,99,107],.int 1),(.str [99,114,101,97,116,101],.int 5),(.str [115,101,116],.int 2),(.str [100,101,108,101,116,101],.int 1),(.str [103,101,116],.int 0)] 5) from ac (by exact (ag _ _))) rfl rfl) ?_
 refine bE false (jd) ?_
 apply ax
 refine aL (az (t:=false) (aj (by exact aa rfl ak)) aQ (bf rfl)) ?_
 refine aL (az (t:=false) (aj (by exact aa rfl ak)) aQ (bf rfl)) ?_
 refine aR bG ?_
 refine aL (bQ (aZ (az (t:=false) (aj (by exact aa rfl (aa rfl ak))) aQ (bf rfl)))) ?_
 refine aL (bQ (bn (az (t:=true) (aj (by exact aa rfl (aa rfl ak))) (cT (ai aQ (ai aQ ae)) (lb rfl)) (by exact cmt (tJ (.inr (ag _ _)) rfl) rfl)) (aZ (az (t:=false) (aN ok (tG hG rfl) (.inl ⟨_,rfl⟩) (ah (by exact aa rfl ak) ae) (by first|exact cO (by exact af (an (ag _ _) (af (ag _ _)) rfl)) (lb rfl)|exact gQ (by (trivial)) (lb rfl)|exact gR (lb rfl))) aD (jd))))) ?_
 apply am
 apply kO
 refine cX ok (tG hG rfl) (tF hG rfl) ?_
 refine aC (by (repeat apply aa rfl);assumption) ?_
 refine aC (by exact aa rfl (aa rfl (aa rfl ak))) ?_
 refine aC (by (repeat apply aa rfl);assumption) ?_
 apply aA
 apply cL
 apply kD ok
 apply bM
 apply aY
 apply aY
 apply bM
 apply aY
 apply aY
 apply bM
 apply aY
 apply aY
 apply lB
 apply tZ
 ·exact (ag _ _)
 exact Nat.ble_eq_true_of_le (by first | assumption | exact Nat.le_add_left 1 _ | exact lb rfl)
 exact rfl
 exact List.cons_ne_nil _ _
 exact rfl
 refine aE (by exact aa rfl (aa rfl ak)) ?_
 refine ej (cQ (show Hp.get _ _=some (.dict [(.str [99,104,101,99,107],.str [114]),(.str [115,101,116],.str [119]),(.str [100,101,108,101,116,101],.str [100])] 3) from ac (by exact (ag _ _))) rfl rfl) ?_
 apply au
 refine CaP.imp (cK ok hG (d:=d+1) (tr.all (by (with_reducible repeat' first|assumption|exact Upd.refl|apply Upd.new|apply Upd.put|apply Upd.leA))) rc hu rfl) ?_
 rintro _ T4 ⟨rfl,u4⟩
 have u4a:Upd H.n All H T4:=Upd.then (by (with_reducible repeat' first|assumption|exact Upd.refl|apply Upd.new|apply Upd.put|apply Upd.leA)) u4 (Upd.leA (by (with_reducible repeat' first|assumption|exact Upd.refl|apply Upd.new|apply Upd.put|apply Upd.leA)))
 have hs4:=u4a.get trivial hs
 have hl4:=u4a.get trivial hl
 refine aR (aS ok (tG hG rfl) (tF hG rfl) (ah (by (repeat apply aa rfl);assumption) (ah (by exact aa rfl (aa rfl (aa rfl ak))) (ah (by exact ak) ae))) (nR ok hG (d:=d+5) (tr.all u4a) m hv)) ?_
 refine aL (az (t:=false) (aj (by exact aa rfl (aa rfl (aa rfl ak)))) aQ (bf rfl)) ?_
 apply am
 apply dj
 apply aT
 refine aE (by exact aa rfl (aa rfl (aa rfl ak))) ?_
 apply aY
 refine bE true (bf rfl) ?_
 apply am
 apply kO
 apply cD ok
 exact (by (repeat apply aa rfl);assumption)
 ·trivial
 exact tM hG rfl
 exact rfl
 refine aC (by (repeat apply aa rfl);assumption) ?_
 refine aC (by (repeat apply aa rfl);assumption) ?_
 apply aA
 apply cJ
 apply aA
 apply aY
 refine aC (by (repeat apply aa rfl);exact ak) ?_
 apply au
 refine d0 (lb rfl) ?_
 apply au
 refine CaP.imp (ve ok hG (d:=d+1) (ch:=.delete p) (by exact af ‹_›) (tr.all (by (with_reducible repeat' first|assumption|exact Upd.refl|apply Upd.new|apply Upd.put|apply Upd.leA))) (ag _ _) h (by exact af ‹_›) hy (Nat.le_trans ln (Upd.leA (by (with_reducible repeat' first|assumption|exact Upd.refl|apply Upd.new|apply Upd.put|apply Upd.leA)))) l1 l2) ?_
 intro _ T9 gX0
 refine zAAA gX0 fun gR0 r1 r2 r4=>?_
 clear gX0
 subst gR0
 refine aK bG ?_
 apply hQ
 refine ⟨rfl,_,r1,r2,dX.upd (ch:=.delete p) (ag _ _) r4 (fun x vs g=>⟨aJ (af hl4) g rfl,.inr ⟨rfl,rfl⟩⟩),Upd.then (Upd.a ?_) r4 (Upd.leA ?_)⟩
 ·(with_reducible repeat' first|assumption|exact Upd.refl|apply Upd.new|apply Upd.put|apply Upd.leA)
 ·(with_reducible repeat' first|assumption|exact Upd.refl|apply Upd.new|apply Upd.put|apply Upd.leA)
end
noncomputable abbrev stB:PSs:=(.cons (.try (.cons (.ite (.cmp .notin (.call (.glb 1718712949) (.cons (.sub (.loc 500118746484) (.loc 30050)) .nil)) (.list (.cons (.glb 1970563693) (.cons (.glb 439922816629) .nil)))) (.cons .bad .nil) .nil) (.cons (.asg 1902540148 (.call (.glb 439922816629) (.cons (.sub (.loc 500118746484) (.loc 30050)) .nil))) (.cons (.ite (.or (.cons (.cmp .lt (.call (.glb 7300717) (.cons (.loc 1902540148) .nil)) (.int 2)) (.cons (.cmp .notin (.sub (.loc 1902540148) (.int 0)) (.glb 362140816724)) .nil))) (.cons .bad .nil) .nil) (.cons (.expr (.meth (.loc 32777981243191138) 111529134485858 (.cons (.meth (.loc 1735222900) 487050277984 (.cons (.loc 126883592042095) (.cons (.loc 1936094326) (.cons (.loc 1717990261) (.cons (.loc 1902540148) (.cons (.loc 32763696029788516) .nil)))))) .nil))) .nil)))) 545146499936607190152532 495807853414 (.cons (.ite (.loc 30789020241323636) (.cons .bad .nil) .nil) (.cons .reraise .nil))) .nil)
noncomputable def But (x:Nat):Nat→AO→Prop:=fun r _=>r≠x
noncomputable abbrev jq:List AV:=[.str [99,104,101,99,107],.str [99,114,101,97,116,101],.str [115,101,116],.str [100,101,108,101,116,101],.str [103,101,116]]
theorem aB.off {T:Hp} {lo t r:Nat} {es:Es} {o o':AO} (h:aB T lo t es) (g:T.get r=some o) (q1:Nat.beq (kd o) (289+6)=false) (q2:Nat.beq (kd o) 0=false) (q3:Nat.beq (kd o) (213+6)=false):aB (aI T r o') lo t es:=
 let ⟨dr,ep,xs,t3,hx⟩:=h
 ⟨dr,ep,xs,{ t3 with ht:=an g t3.ht q1,hd:=an g t3.hd q2,he:=fun x m=>an g (t3.he x m) q3 },hx⟩
structure bu (T:Hp) (sd ep:Nat) (ss:List Sn):Prop where
 hd:T.get sd=some (.dict (ss.map Sn.dc) ep)
 he:∀ x∈ss,1≤x.r∧∃ h,T.get x.r=some (x.ob h)
 nd:(ss.map Sn.num).Nodup
noncomputable abbrev cRf (y:Nat × Ch):AV:=.ref y.1
noncomputable def chE (rev:Int) (es:Es) (chs:List (Nat × Ch)):Es:=chs.foldl (fun e y=>cv rev e y.2) es
noncomputable def fj (rev:Int) (es:Es):List (Nat × Ch)→Prop
 | []=>True
 | y :: l=>okC es y.2∧fj rev (cv rev es y.2) l
theorem nq {rev:Int} {y:Nat × Ch} {l:List (Nat × Ch)} {es:Es}:chE rev es (l ++ [y])=cv rev (chE rev es l) y.2:=by unfold chE; rw [List.foldl_append]; rfl
theorem fj.snoc {rev:Int} {y:Nat × Ch} {l:List (Nat × Ch)}:∀ {es:Es},fj rev es l→okC (chE rev es l) y.2→fj rev es (l ++ [y]):=by
 induction l with
 | nil=>intro es h h2; exact ⟨h2,trivial⟩
 | cons z l ih=>intro es h h2; exact ⟨h.1,ih h.2 h2⟩
theorem LoP.imp {c:Cx} {d:Nat} {loc:Loc} {T:Hp} {xs:List Nat} {src i:Nat} {ik:IK} {b:PSs} {N N':Loc→Hp→Prop} {R R':AV→Hp→Prop} (h:LoP c d loc T xs src ik i b N R) (k:∀ l T,N l T→N' l T) (k2:∀ v T,R v T→R' v T):LoP c d loc T xs src ik i b N' R':=by
 rcases h with ⟨l,T',h,n⟩ | ⟨v,T',h,n⟩
 ·exact .inl ⟨l,T',h,k l T' n⟩
 ·exact .inr ⟨v,T',h,k2 v T' n⟩
theorem eg {α:Type} {c:Cx} {d r:Nat} {T:Hp} {f:α→AV} {xs:List α} (ho:T.get r=some (.list (xs.map f))) (h:xs.length<4000):Bc c (.bi .len) [.ref r] d T (.int (xs.length:Int)) T:=by
 have:=cO (c:=c) (d:=d) ho (by rw [LQ]; exact h)
 rw [LQ] at this; exact this
structure Sp where
 r:Nat
 w:List Nat
 p:List Nat
 tl:List AV
 ans:AV
 ch:Ch
noncomputable abbrev Sp.rf (x:Sp):AV:=.ref x.r
noncomputable abbrev Sp.stp (x:Sp):List AV:=.str x.w :: .str x.p :: x.tl
structure gd (T:Hp) (x:Sp):Prop where
 g:T.get x.r=some (.tuple x.stp)
 w:jq.any (sq · (.str x.w))=true
 tl:x.tl.length≤8
noncomputable def ku (c:Cx) (d s:Nat) (nb:Int) (u:List Nat) (sf:SF):Es→List Sp→Prop
 | _,[]=>True
 | es,x :: l=>jX c d s nb u sf es x.stp x.ans x.ch∧okC es x.ch∧ku c d s nb u sf (cv (sf.rev+1) es x.ch) l
structure LkS (loc:Loc) (s sl t cl al:Nat) (nb:Int) (u:List Nat):Prop where
 h1:lk loc 1735222900=some (.ref s)
 h2:lk loc 126883592042095=some (.int nb)
 h3:lk loc 500118746484=some (.ref sl)
 h4:lk loc 1936094326=some (.str u)
 h5:lk loc 1717990261=some (.ref t)
 h6:lk loc 32763696029788516=some (.ref cl)
 h7:lk loc 32777981243191138=some (.ref al)
noncomputable def KA (lo cl al:Nat):Nat→AO→Prop:=fun r a=>r≠cl∧r≠al∧KT lo r a
theorem KA.tup {lo cl al r:Nat} {T:Hp} {vs l1 l2:List AV} (h1:T.get cl=some (.list l1)) (h2:T.get al=some (.list l2)) (g:T.get r=some (.tuple vs)):KA lo cl al r (.tuple vs):=⟨aJ h1 g rfl,aJ h2 g rfl,.inr ⟨rfl,rfl⟩⟩
theorem KA.low {n lo cl al:Nat} {T T':Hp} (u:Upd n (KA lo cl al) T T') (h:lo≤n) (h2:lo≤cl) (h3:lo≤al):Upd lo All T T':=⟨u.1,fun r a q _ g=>u.2 r a (Nat.lt_of_lt_of_le q h) ⟨Nat.ne_of_lt (Nat.lt_of_lt_of_le q h2),Nat.ne_of_lt (Nat.lt_of_lt_of_le q h3),.inl q⟩ g⟩
structure StA (T:Hp) (s sl t cl al lo:Nat) (sf:SF) (es0:Es) (xs:List Sp) (crs:List (Nat × Ch)) (ans:List AV):Prop where
 hs:T.get s=some sf.ob
 hsl:T.get sl=some (.list (xs.map Sp.rf))
 hx:∀ x∈xs,gd T x
 tr:aB T lo t (chE (sf.rev+1) es0 crs)
 okc:fj (sf.rev+1) es0 crs
 hcl:T.get cl=some (.list (crs.map cRf))
 hch:∀ y∈crs,dX T y.1 y.2
 hal:T.get al=some (.list ans)
 ln:lo≤T.n
 l1:1≤lo
 ls:sl<lo
 lc:lo≤cl
 la:lo≤al
 ne:al≠cl
section
variable {c:Cx} (ok:Ok c) (hG:c.G=G) {d lo t s sl cl al src:Nat} {T T0:Hp} {es es0:Es} {sf:SF} {xs:List Sp} {nb:Int} {u:List Nat}
include ok hG
theorem nK (sz:xs.length<20) (l:List Sp):∀ (pr:List Sp) (T:Hp) (loc:Loc) (crs:List (Nat × Ch)),xs=pr ++ l→StA T s sl t cl al lo sf es0 xs crs (pr.map Sp.ans)→crs.map (·.2)=pr.map Sp.ch→ku c (d+8) s nb u sf (chE (sf.rev+1) es0 crs) l→LkS loc s sl t cl al nb u →
  LoP c (d+8) loc T [30050] src (.range 0 xs.length) pr.length stB (fun l' T'=>∃ crs',StA T' s sl t cl al lo sf es0 xs crs' (xs.map Sp.ans)∧crs'.map (·.2)=xs.map Sp.ch∧Upd T.n (KA lo cl al) T T'∧LkS l' s sl t cl al nb u) (fun _ _=>False):=by
 induction l with
 | nil=>
  intro pr T loc crs hx S e1 _ lc
  rw [List.append_nil] at hx; subst hx
  exact lC (.inr ⟨Nat.le_refl _,rfl⟩) ⟨crs,S,e1,Upd.refl,lc⟩
 | cons x l ih=>
  intro pr T loc crs hx S e1 hk lc
  have mx:x∈xs:=hx▸List.mem_append_right _ (.head _)
  obtain ⟨gx,wx,tx⟩:=S.hx x mx
  have lp:pr.length<xs.length:=by rw [hx,List.length_append]; exact Nat.lt_add_of_pos_right (Nat.succ_pos _)
  have gi:(xs.map Sp.rf)[pr.length]?=some (.ref x.r):=by rw [hx]; exact bV _ _ _ _
  have sz4:pr.length<4000:=lt4 (Nat.le_of_lt (Nat.lt_trans lp sz)) rfl
  have sz6:pr.length<1000000:=Nat.lt_trans sz4 (lb rfl)
  have hS:lk c.G.top 457=some jq:=by rw [hG]; rfl
  have lcs:crs.length=pr.length:=by have:=congrArg List.length e1; rw [LQ,LQ] at this; exact this
  have hs:=S.hs
  have hsl:=S.hsl
  have hcl:=S.hcl
  have hal:=S.hal
  have n1:1≤T.n:=Nat.le_trans S.l1 S.ln
  refine gp fun gP gH=>?_
  refine zEEEA (id S.tr) fun dr ep9 xs9 t3 hx9=>?_
  have ht:=t3.ht
  have un:Upd T.n All T (aq T (.list [.typ .list,.typ .tuple])):=Upd.refl.new
  obtain ⟨v9,T9,h9,rfl,cr,r1,r2,r3,r4⟩:=hk.1 (aq T (.list [.typ .list,.typ .tuple])) lo t x.r cl (crs.map cRf) (af hs) (S.tr.all un) (af gx) (af hcl) (by rw [LQ,lcs]; exact Nat.lt_trans (Nat.lt_trans lp sz) (lb rfl)) S.l1 (Nat.le_succ_of_le S.ln) (Nat.le_trans S.l1 S.lc)
  apply gH;clear gH
  have ga:T9.get al=some (.list (pr.map Sp.ans)):=r4.get ⟨S.ne,.inr ⟨rfl,rfl⟩⟩ (af hal)
  have u9:Upd T.n (KA lo cl al) T T9:=un.a.then (r4.weak (Nat.le_refl _) fun _ _ p=>⟨p.1,p.2.2⟩) (Nat.le_succ _)
  have uf:Upd T.n (KA lo cl al) T (aI T9 al (.list (pr.map Sp.ans ++ [x.ans]))):=u9.set (fun _ k=>k.2.1 rfl) hal
  have kt:∀ y vs,T.get y=some (.tuple vs)→KA lo cl al y (.tuple vs):=fun y vs g=>KA.tup hcl hal g
  have S9:StA (aI T9 al (.list (pr.map Sp.ans ++ [x.ans]))) s sl t cl al lo sf es0 xs (crs ++ [(cr,x.ch)]) ((pr ++ [x]).map Sp.ans):=by
   refine ⟨uf.get ⟨aJ hcl hs rfl,aJ hal hs rfl,.inr ⟨rfl,rfl⟩⟩ hs,uf.get ⟨Nat.ne_of_lt (Nat.lt_of_lt_of_le S.ls S.lc),Nat.ne_of_lt (Nat.lt_of_lt_of_le S.ls S.la),.inl S.ls⟩ hsl,fun y my=>?_,?_,S.okc.snoc hk.2.1,?_,fun y my=>?_,?_,Nat.le_trans S.ln uf.1,S.l1,S.ls,S.lc,S.la,S.ne⟩
   ·obtain ⟨g,a,b⟩:=S.hx y my
    exact ⟨uf.get (kt _ _ g) g,a,b⟩
   ·rw [nq]; exact r1.off ga rfl rfl rfl
   ·rw [List.map_append]; exact cb (Ne.symm S.ne) r2
   ·rcases List.mem_append.mp my with my | my
    ·exact (S.hch y my).upd uf kt
    ·cases List.mem_singleton.mp my
     have up:Upd T9.n (But al) T9 (aI T9 al (.list (pr.map Sp.ans ++ [x.ans]))):=Upd.refl.set (fun _ k=>k rfl) ga
     exact r3.upd up fun _ _ g=>aJ ga g rfl
   ·rw [List.map_append]; exact ac ga
  have lc9:∀ {q1 q2:AV},LkS (pt (pt loc 30050 q1) 1902540148 q2) s sl t cl al nb u:=⟨aa rfl (aa rfl lc.h1),aa rfl (aa rfl lc.h2),aa rfl (aa rfl lc.h3),aa rfl (aa rfl lc.h4),aa rfl (aa rfl lc.h5),aa rfl (aa rfl lc.h6),aa rfl (aa rfl lc.h7)⟩
  have ih:=ih (pr ++ [x]) (aI T9 al (.list (pr.map Sp.ans ++ [x.ans]))) (pt (pt loc 30050 (.int (pr.length:Int))) 1902540148 (.ref x.r)) (crs ++ [(cr,x.ch)]) (by rw [hx,List.append_assoc]; rfl) S9 (by rw [List.map_append,List.map_append,e1]; rfl) (by rw [nq]; exact hk.2.2) lc9
  rw [List.length_append] at ih
  refine gp fun gP gH=>?_
  obtain ⟨k1,k2,k3,k4,k5,k6,k7⟩:=id lc
  apply gH;clear gH
  have la1:1≤al:=Nat.le_trans S.l1 S.la
  clear lc9 S9 kt r1 r2 r3 hk S
  refine kL (y:=.int (pr.length:Int)) (.inl ⟨lp,by rw [Int.zero_add]⟩) aX ?_
  apply am
  apply jK
  refine aL (az (t:=false) (aN ok (tG hG rfl) (.inr ⟨_,rfl⟩) (ai (di (aj (by exact aa rfl ‹_›)) (aj (by exact ak)) (bR (j:=pr.length) (v:=.ref x.r) hsl gi sz6)) ae) (by first|exact dE|exact dA|exact dz (by (trivial)))) (cT (ai (dk ok (tG hG rfl)) (ai (dk ok (tG hG rfl)) ae)) (lb rfl)) (by exact cmt (mP (.inr (ag _ _)) rfl) rfl)) ?_
  refine aR (aN ok (tG hG rfl) (.inr ⟨_,rfl⟩) (ai (di (aj (by exact aa rfl ‹_›)) (aj (by exact ak)) (bR (j:=pr.length) (v:=.ref x.r) (af hsl) gi sz6)) ae) (qB (af gx))) ?_
  refine aL (gz (bn (az (t:=false) (aN ok (tG hG rfl) (.inl ⟨_,rfl⟩) (ah (by exact ak) ae) (gQ (by exact af ‹_›) (lt4 (Nat.succ_le_succ (Nat.succ_le_succ tx)) rfl))) aD (by exact cmt eY (decide_eq_false (Int.not_lt.mpr (Int.ofNat_le.mpr (Nat.succ_le_succ (Nat.succ_le_succ (Nat.zero_le _)))))))) (bn (az (t:=false) (di (aj (by exact ak)) aD (by first|exact cy (j:=0) (by exact af ‹_›) rfl (lb rfl)|exact bR (j:=0) (by (trivial)) rfl (lb rfl))) (dk ok (tG hG rfl)) (by exact cmt (wc ok hS rfl) (by rw [wx]; rfl))) cB))) ?_
  refine aV (bH (aj (by exact aa rfl (aa rfl ‹_›))) ((dq (by exact af ‹_›))) (ai (bp ok (by exact aa rfl (aa rfl ‹_›)) (by exact af ‹_›) (by exact tM hG rfl) (by exact rfl) (ah (by exact aa rfl (aa rfl ‹_›)) (ah (by exact aa rfl (aa rfl ‹_›)) (ah (by exact aa rfl (aa rfl ‹_›)) (ah (by exact ak) (ah (by exact aa rfl (aa rfl ‹_›)) ae))))) (h9)) ae) (dw ga (by rw [LQ]; exact sz4) la1)) ?_
  apply ax
  apply ax
  refine ih.imp (fun l' T' h=>?_) fun _ _ f=>f
  refine zEAAA h fun crs' a1 a2 a3 a4=>?_
  exact ⟨crs',a1,a2,uf.then a3 uf.1,a4⟩
theorem kn {x:Sn} {ss:List Sn} {ep lo0:Nat} {b:Bool} (hs:T.get s=some sf.ob) (se:bu T sf.ses ep ss) (mx:x∈ss) (tr:aB T lo0 sf.tree es) (hk:ku c (d+8) s x.num x.u sf es xs) (hx:∀ y∈xs,gd T y) (hsl:T.get sl=some (.list (xs.map Sp.rf))) (sz:xs.length<20) (hn:1≤T.n) :
  CaP c T 660 [.ref s,.int x.num,.ref sl,.bool b] (d+9) fun v T'=>∃ rt t cl al crs,v=.ref rt∧T'.get rt=some (.tuple [.ref t,.ref cl,.ref al])∧crs.map (·.2)=xs.map Sp.ch∧aB T' T.n t (chE (sf.rev+1) es crs)∧fj (sf.rev+1) es crs∧T'.get cl=some (.list (crs.map cRf))∧(∀ y∈crs,dX T' y.1 y.2)∧T'.get al=some (.list (xs.map Sp.ans))∧Upd T.n (But x.r) T T'∧T.n≤al∧T'.get x.r=some (x.ob sf.tick):=by
 refine zAE (se.he x mx) fun l1 hh gx=>?_
 have h1:=dT ok hG (d:=d+7) hs se.hd mx se.nd gx l1
 have u1:Upd T.n (But x.r) T (aI T x.r (x.ob sf.tick)):=Upd.refl.set (fun _ k=>k rfl) gx
 have tr1:=tr.off (o':=x.ob sf.tick) gx rfl rfl rfl
 refine zEEALA (eP ok hG (d:=d+3) tr1 hn) fun T2 h2 tr2 u2=>?_
 have hs1:(aI T x.r (x.ob sf.tick)).get s=some sf.ob:=an gx hs rfl
 have hs2:=u2.get trivial hs1
 have g1:(aI T x.r (x.ob sf.tick)).get x.r=some (x.ob sf.tick):=ac gx
 have hsl2:=u2.get trivial (an gx hsl rfl)
 have n2:T.n≤T2.n:=u2.1
 have ls:=aP hsl
 refine zEEEA (id tr1) fun dr ep9 ys t3 hy=>?_
 have ht:=t3.ht
 have ua:Upd T2.n All T2 (aq (aq (aq T2 (.list [])) (.list [])) (.range 0 (xs.length:Int))):=Upd.refl.new.new.new
 have S:StA (aq (aq (aq T2 (.list [])) (.list [])) (.range 0 (xs.length:Int))) s sl T.n T2.n (aq T2 (.list [])).n T.n sf es xs [] []:=⟨ua.get trivial hs2,ua.get trivial hsl2,fun y my=>let ⟨g,a,b⟩:=hx y my; ⟨ua.get trivial (u2.get trivial (an gx g rfl)),a,b⟩,tr2.all ua,trivial,af (af (ag _ _)),fun _ m=>(by cases m),af (ag _ _),Nat.le_trans n2 ua.1,hn,ls,n2,Nat.le_succ_of_le n2,Nat.ne_of_gt (Nat.lt_succ_self _)⟩
 have lp:=nK ok hG (d:=d) (src:=(aq (aq T2 (.list [])) (.list [])).n) (nb:=x.num) (u:=x.u) sz xs [] _ [(1735222900,.ref s),(126883592042095,.int x.num),(500118746484,.ref sl),(30789020241323636,.bool b),(1936094326,.str x.u),(1717990261,.ref T.n),(32763696029788516,.ref T2.n),(32777981243191138,.ref (aq T2 (.list [])).n)] [] rfl S rfl hk ⟨rfl,rfl,rfl,rfl,rfl,rfl,rfl⟩
 obtain ⟨loc',T9,h9,crs,S9,e9,u9,lc9⟩ | ⟨_,_,_,f⟩:=lp
 ·obtain ⟨k1,k2,k3,k4,k5,k6,k7⟩:=lc9
  have s20:(0:Int)≤(xs.length:Int)∧(xs.length:Int)<1000000:=⟨Int.natCast_nonneg _,Int.lt_trans (Int.ofNat_lt.mpr sz) (by decide)⟩
  refine aH ok (l:=[(1735222900,_),(126883592042095,_),(500118746484,_),(30789020241323636,_)]) (tF hG rfl) rfl fun Qz hQ=>?_
  refine aR (fC ok (bp ok rfl (by trivial) (by exact tM hG rfl) (by exact rfl) (ah rfl ae) (h1)) (by trivial) (by exact tA hG rfl) (by exact rfl)) ?_
  refine aR (dN ok (aO ok rfl (by trivial) (by exact tA hG rfl) (by exact rfl)) (by trivial) (by exact tM hG rfl) (by exact rfl) ae (h2)) ?_
  refine aR (cT ae (lb rfl)) ?_
  refine aR (cT ae (lb rfl)) ?_
  apply am
  apply hI
  refine bA ok (tG hG rfl) (by first | exact .inl ⟨_,rfl⟩ | exact .inr ⟨_,rfl⟩) ?_
  apply aA
  refine bA ok (tG hG rfl) (by first | exact .inl ⟨_,rfl⟩ | exact .inr ⟨_,rfl⟩) ?_
  refine aC rfl ?_
  apply au
  refine eF (eg (af (af hsl2)) (lt4 (Nat.le_of_lt sz) rfl)) ?_
  apply au
  refine eF (kP) ?_
  refine jx (show ed _ _ (.range 0 xs.length) from ⟨_,ag _ _,by decide,by decide,Int.lt_of_lt_of_le (by decide) s20.1,s20.2,by rw [Int.sub_zero]; rfl⟩) ?_
  refine qq (h9) ?_
  refine aK (bW (ah (k5) (ah (k6) (ah (k7) ae))) (lb rfl)) ?_
  apply hQ
  have uz:Upd T.n All (aI T x.r (x.ob sf.tick)) T9:=u2.trans ((ua.weak n2 fun _ _ p=>p).trans (KA.low u9 (Nat.le_trans n2 ua.1) n2 (Nat.le_succ_of_le n2)))
  exact ⟨_,T.n,T2.n,_,crs,rfl,ag _ _,e9,S9.tr.all Upd.refl.new,S9.okc,af S9.hcl,fun y my=>(S9.hch y my).upd (P:=All) Upd.refl.new fun _ _ _=>trivial,af S9.hal,(u1.trans uz.a).new,Nat.le_succ_of_le n2,af (uz.2 _ _ (aP gx) trivial g1)⟩
 ·exact f.elim
theorem sI {x:Sn} {ss:List Sn} {ep lo0 st sl:Nat} {w p:List Nat} {tl:List AV} {ans:AV} {ch:Ch} (hs:T.get s=some sf.ob) (se:bu T sf.ses ep ss) (mx:x∈ss) (tr:aB T lo0 sf.tree es) (hstp:jX c (d+8) s x.num x.u sf es (.str w :: .str p :: tl) ans ch) (hk:okC es ch) (hw:jq.any (sq · (.str w))=true) (htl:tl.length≤8) (hst:T.get st=some (.tuple (.str w :: .str p :: tl))) (hsl:T.get sl=some (.list [.ref st])) (hn:1≤T.n) :
  CaP c T 660 [.ref s,.int x.num,.ref sl,.bool false] (d+9) fun v T'=>∃ rt t cl al cr,v=.ref rt∧T'.get rt=some (.tuple [.ref t,.ref cl,.ref al])∧aB T' T.n t (cv (sf.rev+1) es ch)∧T'.get cl=some (.list [.ref cr])∧dX T' cr ch∧T'.get al=some (.list [ans])∧Upd T.n (But x.r) T T'∧T.n≤al∧T'.get x.r=some (x.ob sf.tick):=by
 refine (kn ok hG (d:=d) (xs:=[⟨st,w,p,tl,ans,ch⟩]) (b:=false) hs se mx tr ⟨hstp,hk,trivial⟩ (fun y my=>(List.mem_singleton.mp my)▸⟨hst,hw,htl⟩) hsl (lb rfl) hn).imp fun v T' h=>?_
 refine zEEEEEA h fun rt t cl al crs gR0 gC0=>?_
 refine zAAAAAA gC0 fun r1 r2 r3 r4 r5 r6 gC1=>?_
 refine zAAA gC1 fun r7 r8 r9 r10=>?_
 subst gR0
 have e:crs.map (·.2)=[ch]:=r2
 cases crs with
 | nil=>exact nomatch e
 | cons y l=>
  cases l with
  | cons=>exact nomatch e
  | nil=>
   have e2:y.2=ch:=List.head_eq_of_cons_eq e
   subst e2
   exact ⟨rt,t,cl,al,y.1,rfl,r1,r3,r5,r6 _ (.head _),r7,r8,r9,r10⟩
end
structure Rn where
 r:Nat
 rev:Int
 tick:Int
 cs:Nat
 chs:List (Nat × Ch)
noncomputable abbrev Rn.rf (x:Rn):AV:=.ref x.r
structure jD (T:Hp) (x:Rn):Prop where
 h1:T.get x.r=some (.tuple [.int x.rev,.int x.tick,.ref x.cs])
 h2:T.get x.cs=some (.tuple (x.chs.map cRf))
 h3:∀ y∈x.chs,dX T y.1 y.2
theorem jD.upd {T T':Hp} {P:Nat→AO→Prop} {x:Rn} (h:jD T x) (u:Upd T.n P T T') (hp:∀ x vs,T.get x=some (.tuple vs)→P x (.tuple vs)):jD T' x:=⟨u.get (hp _ _ h.h1) h.h1,u.get (hp _ _ h.h2) h.h2,fun y m=>(h.h3 y m).upd u hp⟩
noncomputable abbrev jL (lr sp:Nat):AO:=.inst 369 [(1954050163,.ref lr),(8462379648668561268,.ref sp),(504447006068,.int 0)]
noncomputable def hM (rows:List Rn):Int:=match rows.getLast? with | some x=>x.rev | none=>0
theorem nA (rows:List Rn) (x:Rn):hM (rows ++ [x])=x.rev:=by unfold hM; rw [List.getLast?_append]; rfl
section
variable {c:Cx} (ok:Ok c) (hG:c.G=G) {d s lg lr sp:Nat} {T:Hp} {es:Es} {sf:SF} {rows:List Rn}
include ok hG
theorem rM (hl:T.get lg=some (jL lr sp)) (hr:T.get lr=some (.list (rows.map Rn.rf))) (rn:∀ x∈rows,jD T x) (sz:rows.length<50):Ca c 342 [.ref lg] (d+1) T (.int (hM rows)) T:=by
 have sz':(rows.map Rn.rf).length<4000:=by rw [LQ]; exact Nat.lt_trans sz (lb rfl)
 have:CaP c T 342 [.ref lg] (d+1) fun u T'=>u=.int (hM rows)∧T'=T:=by
  refine aH ok (l:=[(1735222900,_)]) (tF hG rfl) rfl fun Qz hQ=>?_
  unfold hM at hQ
  cases e:rows.getLast? with
  | none=>
   rw [e] at hQ
   cases List.getLast?_eq_none_iff.mp e
   refine bF (az (t:=true) (aN ok (tG hG rfl) (.inl ⟨_,rfl⟩) (ai (aO ok rfl (by trivial) (by exact tA hG rfl) (by exact rfl)) ae) (cO hr sz')) aD (bf rfl)) ?_
   refine aK (aO ok rfl (by trivial) (by exact tA hG rfl) (by exact rfl)) ?_
   apply hQ
   exact ⟨rfl,rfl⟩
  | some x=>
   rw [e] at hQ
   have m:=List.mem_of_getLast? e
   have ne:rows.length≠0:=fun z=>by rw [List.length_eq_zero_iff.mp z] at m; cases m
   have rx:=(rn x m).h1
   refine aL (az (t:=false) (aN ok (tG hG rfl) (.inl ⟨_,rfl⟩) (ai (aO ok rfl (by trivial) (by exact tA hG rfl) (by exact rfl)) ae) (cO hr sz')) aD (by exact bf (congrArg some (decide_eq_false fun z=>ne (by rw [LQ] at z; exact Int.ofNat_inj.mp z))))) ?_
   refine aK (di (di (aO ok rfl (by trivial) (by exact tA hG rfl) (by exact rfl)) (sj aD) (wB (v:=.ref x.r) hr (by rw [List.getLast?_map,e]; rfl))) aD (cy (j:=0) rx rfl (lb rfl))) ?_
   apply hQ
   exact ⟨rfl,rfl⟩
 refine zEEAL this fun _ h gR0=>?_
 subst gR0
 exact h
theorem s5 {cl:Nat} {chs:List (Nat × Ch)} {rev tick:Int} (hl:T.get lg=some (jL lr sp)) (hr:T.get lr=some (.list (rows.map Rn.rf))) (rn:∀ x∈rows,jD T x) (sz:rows.length<50) (hc:T.get cl=some (.list (chs.map cRf))) (hch:∀ y∈chs,dX T y.1 y.2) (sc:chs.length<60) (hrev:rev=hM rows+1) (l1:1≤lr):CaP c T 335 [.ref lg,.int rev,.int tick,.ref cl] (d+2) fun v T'=>v=.none∧∃ x:Rn,x.rev=rev∧x.chs=chs∧T'.get lr=some (.list ((rows ++ [x]).map Rn.rf))∧jD T' x∧Upd T.n (But lr) T T':=by
 have h1:=rM ok hG (d:=d) hl hr rn sz
 refine cA ok (l:=[(1735222900,_),(8030035183836554867,_),(1818520181,_),(32763696029788516,_)]) (tF hG rfl) rfl fun lz hz Qz hQ=>?_
 have hz0:=hz 1735222900 _ rfl
 have hz1:=hz 8030035183836554867 _ rfl
 have hz2:=hz 1818520181 _ rfl
 have hz3:=hz 32763696029788516 _ rfl
 clear hz
 refine aL (az (t:=false) (aj (by trivial)) (bB (bp ok (by trivial) (by trivial) (by exact tM hG rfl) (by exact rfl) ae (h1)) aD (cE)) (by exact iu (t:=true) (congrArg some (decide_eq_true hrev)))) ?_
 refine aV (bH (aO ok (by trivial) (by trivial) (by exact tA hG rfl) (by exact rfl)) ((dq (by (trivial)))) (ai (bW (ah (by trivial) (ah (by trivial) (ai (aN ok (tG hG rfl) (.inr ⟨_,rfl⟩) (ah (by trivial) ae) (sN hc (by rw [LQ]; exact Nat.lt_trans sc (lb rfl)))) ae))) (lb rfl)) ae) (dw (by exact af (af ‹_›)) (by rw [LQ]; exact Nat.lt_trans sz (lb rfl)) l1)) ?_
 apply ax
 apply hQ
 have hr2:(aq (aq T (.tuple (chs.map cRf))) (.tuple [.int rev,.int tick,.ref T.n])).get lr=some (.list (rows.map Rn.rf)):=af (af hr)
 have u2:Upd T.n (But lr) T (aI (aq (aq T (.tuple (chs.map cRf))) (.tuple [.int rev,.int tick,.ref T.n])) lr (.list (rows.map Rn.rf ++ [.ref (aq T (.tuple (chs.map cRf))).n]))):=Upd.refl.new.new.set (fun _ k=>k rfl) hr
 refine ⟨rfl,⟨(aq T (.tuple (chs.map cRf))).n,rev,tick,T.n,chs⟩,rfl,rfl,?_,⟨an hr2 (ag _ _) rfl,an hr2 (af (ag _ _)) rfl,fun y m=>(hch y m).upd u2 fun x vs g=>aJ hr g rfl⟩,u2⟩
 rw [List.map_append]; exact ac hr2
theorem oo {t cl:Nat} {chs:List (Nat × Ch)} (hs:T.get s=some sf.ob) (p1:1≤s) (hl:T.get sf.log=some (jL lr sp)) (hr:T.get lr=some (.list (rows.map Rn.rf))) (rn:∀ x∈rows,jD T x) (sz:rows.length<50) (hc:T.get cl=some (.list (chs.map cRf))) (hch:∀ y∈chs,dX T y.1 y.2) (sc:chs.length<60) (hrev:hM rows=sf.rev) (l1:1≤lr) (hw:T.get sf.wat=some (.dict [] 0)):CaP c T 573 [.ref s,.ref t,.ref cl] (d+3) fun v T'=>v=.none∧T'.get s=some (SF.ob { sf with tree:=t,rev:=sf.rev+1 })∧∃ x:Rn,x.rev=sf.rev+1∧x.chs=chs∧T'.get lr=some (.list ((rows ++ [x]).map Rn.rf))∧jD T' x∧Upd T.n (fun r _=>r≠s∧r≠lr) T T':=by
 have hs1:(aI T s (SF.ob { sf with rev:=sf.rev+1 })).get s=some (SF.ob { sf with rev:=sf.rev+1 }):=ac hs
 have u1:Upd T.n (But s) T (aI (aI T s (SF.ob { sf with rev:=sf.rev+1 })) s (SF.ob { sf with tree:=t,rev:=sf.rev+1 })):=(Upd.refl.set (fun _ k=>k rfl) hs).set (fun _ k=>k rfl) hs
 have kp:∀ {x:Nat} {vs:List AV},T.get x=some (.tuple vs)→x≠s:=fun g=>aJ hs g rfl
 refine zEEALEAA (s5 ok hG (d:=d) (rows:=rows) (rev:=sf.rev+1) (tick:=sf.tick) (u1.get (aJ hs hl rfl) hl) (u1.get (aJ hs hr rfl) hr) (fun x m=>(rn x m).upd u1 fun _ _ g=>kp g) sz (u1.get (aJ hs hc rfl) hc) (fun y m=>(hch y m).upd u1 fun _ _ g=>kp g) sc (by rw [hrev]) l1) fun T2 x h2 e1 e2 gC0=>?_
 refine zAA gC0 fun g2 r2 u2=>?_
 have hs2:T2.get s=some (SF.ob { sf with tree:=t,rev:=sf.rev+1 }):=u2.get (aJ (u1.get (aJ hs hr rfl) hr) (ac hs1) rfl) (ac hs1)
 have hw2:T2.get sf.wat=some (.dict [] 0):=u2.get (aJ (u1.get (aJ hs hr rfl) hr) (u1.get (aJ hs hw rfl) hw) rfl) (u1.get (aJ hs hw rfl) hw)
 have hl1:=u1.get (aJ hs hl rfl) hl
 refine cA ok (l:=[(1735222900,_),(1717990261,_),(32763696029788516,_)]) (tF hG rfl) rfl fun lz hz Qz hQ=>?_
 have hz0:=hz 1735222900 _ rfl
 have hz1:=hz 1717990261 _ rfl
 have hz2:=hz 32763696029788516 _ rfl
 clear hz
 refine aR (aO ok (by trivial) (by trivial) (by exact tA hG rfl) (by exact rfl)) ?_
 refine be ok (bB (aO ok (by exact aa rfl ‹_›) (by trivial) (by exact tA hG rfl) (by exact rfl)) aD (cE)) (by exact aa rfl ‹_›) (by trivial) (by exact tA hG rfl) (by exact lb rfl) (by first|assumption|exact Nat.le_add_left 1 _|exact lb rfl) ?_
 refine be ok (aj (by exact aa rfl ‹_›)) (by exact aa rfl ‹_›) (by trivial) (by exact tA hG rfl) (by exact lb rfl) (by first|assumption|exact Nat.le_add_left 1 _|exact lb rfl) ?_
 refine aV (dN ok (aO ok (by exact aa rfl ‹_›) (by exact ac (ac ‹_›)) (by exact tA hG rfl) (by exact rfl)) (by trivial) (by exact tM hG rfl) (by exact rfl) (ai (aO ok (by exact aa rfl ‹_›) (by exact ac (ac ‹_›)) (by exact tA hG rfl) (by exact rfl)) (ai (aO ok (by exact aa rfl ‹_›) (by exact ac (ac ‹_›)) (by exact tA hG rfl) (by exact rfl)) (ah (by exact aa rfl ‹_›) ae))) (h2)) ?_
 apply am
 apply hI
 refine bA ok (tG hG rfl) (by first | exact .inl ⟨_,rfl⟩ | exact .inr ⟨_,rfl⟩) ?_
 apply aA
 apply cx ok
 exact (by exact aa rfl ‹_›)
 ·trivial
 exact tA hG rfl
 exact rfl
 apply au
 refine eF (eW (l:=[]) (m:=[]) (eI hw2 (lb rfl)) (lb rfl) (List.Perm.refl _) List.Pairwise.nil) ?_
 refine jx (ikL (ag _ _)) ?_
 refine lC (cj (ag _ _) rfl) ?_
 refine aL (bQ (aZ (az (t:=false) (aO ok (by exact aa rfl ‹_›) (by exact af ‹_›) (by exact tA hG rfl) (by exact rfl)) bG (by first|exact bv|exact bN rfl|exact bX)))) ?_
 apply ax
 apply hQ
 refine ⟨rfl,af hs2,x,e1,e2,af g2,r2.upd (P:=All) Upd.refl.new fun _ _ _=>trivial,?_⟩
 exact ((u1.weak (Nat.le_refl _) fun _ _ p=>p.1).then (u2.weak (Nat.le_refl _) fun _ _ p=>p.2) u1.1).new
end
noncomputable def Rep (es:Es):List Rn→Es→Prop
 | [],es'=>es=es'
 | x :: l,es'=>fj x.rev es x.chs∧0<x.rev∧Rep (chE x.rev es x.chs) l es'
theorem Rep.snoc {x:Rn} {es':Es} {rows:List Rn}:∀ {es:Es},Rep es rows es'→fj x.rev es' x.chs→0<x.rev→Rep es (rows ++ [x]) (chE x.rev es' x.chs):=by
 induction rows with
 | nil=>intro es h h2 h3; cases h; exact ⟨h2,h3,rfl⟩
 | cons y rows ih=>intro es h h2 h3; exact ⟨h.1,h.2.1,ih h.2.2 h2 h3⟩
noncomputable abbrev cS:Es:=[([47],hZ)]
noncomputable abbrev ug (st:Nat):AO:=.inst 310 [(8030035183836554867,.int 0),(1717990261,.ref st)]
structure aM (T:Hp) (s lr sp st:Nat) (sf:SF) (rows:List Rn) (es:Es):Prop where
 hs:T.get s=some sf.ob
 ps:1≤s
 hl:T.get sf.log=some (jL lr sp)
 hr:T.get lr=some (.list (rows.map Rn.rf))
 pl:1≤lr
 rn:∀ x∈rows,jD T x
 hp:T.get sp=some (ug st)
 ts:aB T 1 st cS
 tr:aB T 1 sf.tree es
 wat:T.get sf.wat=some (.dict [] 0)
 lea:T.get sf.lea=some (.dict [] 0)
 rep:Rep cS rows es
 lst:hM rows=sf.rev
 pos:0≤sf.rev
noncomputable def KS (s lr x:Nat):Nat→AO→Prop:=fun r _=>r≠s∧r≠lr∧r≠x
theorem aB.weak {T:Hp} {lo t:Nat} {es:Es} (h:aB T lo t es) (l:1≤lo):aB T 1 t es:=
 let ⟨dr,ep,xs,t3,hx⟩:=h
 ⟨dr,ep,xs,{ t3 with lt:=Nat.le_trans l t3.lt,ld:=Nat.le_trans l t3.ld,le:=fun x m=>Nat.le_trans l (t3.le x m) },hx⟩
theorem aB.keep {T T':Hp} {P:Nat→AO→Prop} {lo t:Nat} {es:Es} (h:aB T lo t es) (u:Upd T.n P T T') (k:∀ r a,T.get r=some a→(Nat.beq (kd a) (289+6) || Nat.beq (kd a) 0 || Nat.beq (kd a) (213+6))=true→P r a):aB T' lo t es:=
 let ⟨dr,ep,xs,t3,hx⟩:=h
 ⟨dr,ep,xs,{ t3 with ht:=u.get (k _ _ t3.ht rfl) t3.ht,hd:=u.get (k _ _ t3.hd rfl) t3.hd,he:=fun x m=>u.get (k _ _ (t3.he x m) rfl) (t3.he x m) },hx⟩
theorem oI {T:Hp} {r x:Nat} {a b:AO} (h:T.get r=some a) (g:T.get x=some b) (q:(Nat.beq (kd b) (289+6) || Nat.beq (kd b) 0 || Nat.beq (kd b) (213+6))=true) (q2:(Nat.beq (kd a) (289+6) || Nat.beq (kd a) 0 || Nat.beq (kd a) (213+6))=false):x≠r:=by
 rintro rfl
 rw [h] at g; cases g
 rw [q] at q2; cases q2
theorem aM.but {T T':Hp} {s lr sp st:Nat} {sf:SF} {rows:List Rn} {es:Es} {x:Sn} {h:Int} (X:aM T s lr sp st sf rows es) (gx:T.get x.r=some (x.ob h)) (u:Upd T.n (But x.r) T T'):aM T' s lr sp st sf rows es:=
 ⟨u.get (aJ gx X.hs rfl) X.hs,X.ps,u.get (aJ gx X.hl rfl) X.hl,u.get (aJ gx X.hr rfl) X.hr,X.pl,fun y m=>(X.rn y m).upd u (fun y vs g=>aJ gx g rfl),u.get (aJ gx X.hp rfl) X.hp,X.ts.keep u (fun r a g q=>oI gx g q rfl),X.tr.keep u (fun r a g q=>oI gx g q rfl),u.get (aJ gx X.wat rfl) X.wat,u.get (aJ gx X.lea rfl) X.lea,X.rep,X.lst,X.pos⟩
theorem bu.but {T T':Hp} {sd ep:Nat} {ss:List Sn} {x:Sn} {h h':Int} (se:bu T sd ep ss) (gx:T.get x.r=some (x.ob h)) (gx':T'.get x.r=some (x.ob h')) (u:Upd T.n (But x.r) T T'):bu T' sd ep ss:=by
 refine ⟨u.get (aJ gx se.hd rfl) se.hd,fun y m=>⟨(se.he y m).1,?_⟩,se.nd⟩
 refine zE ((se.he y m).2) fun h9 g=>?_
 by_cases e:y.r=x.r
 ·refine ⟨h',?_⟩
  rw [e] at g ⊢
  rw [gx] at g
  cases y; cases x
  cases g
  exact gx'
 ·exact ⟨h9,u.get e g⟩
theorem bu.off {T:Hp} {sd ep r:Nat} {ss:List Sn} {o o':AO} (se:bu T sd ep ss) (g:T.get r=some o) (q1:Nat.beq (kd o) 0=false) (q2:Nat.beq (kd o) (162+6)=false):bu (aI T r o') sd ep ss:=⟨an g se.hd q1,fun y m=>⟨(se.he y m).1,let ⟨h,k⟩:=(se.he y m).2; ⟨h,an g k q2⟩⟩,se.nd⟩
theorem bu.keep {T T':Hp} {sd ep s lr:Nat} {ss:List Sn} {sf:SF} {l:List AV} (se:bu T sd ep ss) (hs:T.get s=some sf.ob) (hr:T.get lr=some (.list l)) (u:Upd T.n (fun r _=>r≠s∧r≠lr) T T'):bu T' sd ep ss:=⟨u.get ⟨aJ hs se.hd rfl,aJ hr se.hd rfl⟩ se.hd,fun y m=>⟨(se.he y m).1,let ⟨h,k⟩:=(se.he y m).2; ⟨h,u.get ⟨aJ hs k rfl,aJ hr k rfl⟩ k⟩⟩,se.nd⟩
section
variable {c:Cx} (ok:Ok c) (hG:c.G=G) {d s lr sp st lo t cl:Nat} {T:Hp} {es:Es} {sf:SF} {rows:List Rn}
include ok hG
theorem dH {chs:List (Nat × Ch)} (X:aM T s lr sp st sf rows es) (sz:rows.length<49) (tr':aB T lo t (chE (sf.rev+1) es chs)) (l1:1≤lo) (hc:T.get cl=some (.list (chs.map cRf))) (hch:∀ y∈chs,dX T y.1 y.2) (sc:chs.length<60) (hk:fj (sf.rev+1) es chs):CaP c T 573 [.ref s,.ref t,.ref cl] (d+3) fun v T'=>v=.none∧∃ row:Rn,aM T' s lr sp st { sf with tree:=t,rev:=sf.rev+1 } (rows ++ [row]) (chE (sf.rev+1) es chs)∧Upd T.n (fun r _=>r≠s∧r≠lr) T T':=by
 refine zEEALAEA (oo ok hG (d:=d) (rows:=rows) (t:=t) (cl:=cl) (chs:=chs) X.hs X.ps X.hl X.hr X.rn (Nat.lt_succ_of_lt sz) hc hch sc X.lst X.pl X.wat) fun T2 row h2 gs2 e1 gC0=>?_
 refine zAAA gC0 fun e2 g2 r2 u2=>?_
 have kt:∀ y vs,T.get y=some (.tuple vs)→y≠s∧y≠lr:=fun y vs g=>⟨aJ X.hs g rfl,aJ X.hr g rfl⟩
 have tk:∀ r a,T.get r=some a→(Nat.beq (kd a) (289+6) || Nat.beq (kd a) 0 || Nat.beq (kd a) (213+6))=true→r≠s∧r≠lr:=fun r a g q=>⟨oI X.hs g q rfl,oI X.hr g q rfl⟩
 have gl:∀ {r:Nat} {a:AO},T.get r=some a→Nat.beq (kd sf.ob) (kd a)=false→Nat.beq 1 (kd a)=false→T2.get r=some a:=fun g q1 q2=>u2.get ⟨aJ X.hs g q1,aJ X.hr g q2⟩ g
 refine ⟨_,T2,h2,rfl,row,⟨gs2,X.ps,gl X.hl rfl rfl,g2,X.pl,fun y m=>?_,gl X.hp rfl rfl,X.ts.keep u2 tk,(tr'.weak l1).keep u2 tk,gl X.wat rfl rfl,gl X.lea rfl rfl,?_,?_,?_⟩,u2⟩
 ·rcases List.mem_append.mp m with m | m
  ·exact (X.rn y m).upd u2 kt
  ·cases List.mem_singleton.mp m; exact r2
 ·have:=X.rep.snoc (x:=row) (by rw [e1,e2]; exact hk) (by rw [e1]; exact Int.lt_add_one_of_le X.pos)
  rw [e2,e1] at this; exact this
 ·rw [nA]; exact e1
 ·exact Int.le_add_one X.pos
theorem su {x:Sn} {ss:List Sn} {ep so:Nat} {w p:List Nat} {tl:List AV} {ans:AV} {ch:Ch} (X:aM T s lr sp st sf rows es) (sz:rows.length<49) (se:bu T sf.ses ep ss) (mx:x∈ss) (hstp:jX c (d+8) s x.num x.u sf es (.str w :: .str p :: tl) ans ch) (hk:okC es ch) (hw:jq.any (sq · (.str w))=true) (htl:tl.length≤8) (hst:T.get so=some (.tuple (.str w :: .str p :: tl))) (hn:1≤T.n) :
  CaP c T 639 [.ref s,.int x.num,.ref so] (d+10) fun v T'=>v=ans∧∃ (sf':SF) (row:Rn),aM T' s lr sp st sf' (rows ++ [row]) (cv (sf.rev+1) es ch)∧sf'.ses=sf.ses∧sf'.rev=sf.rev+1∧bu T' sf.ses ep ss∧Upd T.n (KS s lr x.r) T T':=by
 obtain ⟨_,T1,h1,rt,t,cl,al,cr,rfl,g1,tr1,gc,hcr,ga,u1,lc,gx1⟩:=sI ok hG (d:=d) (T:=aq T (.list [.ref so])) (sl:=T.n) (af X.hs) ⟨af se.hd,fun y m=>⟨(se.he y m).1,let ⟨h,g⟩:=(se.he y m).2; ⟨h,af g⟩⟩,se.nd⟩ mx (X.tr.all Upd.refl.new) hstp hk hw htl (af hst) (ag _ _) (Nat.le_succ_of_le hn)
 refine gp fun gP gH=>?_
 refine zAE (se.he x mx) fun px hh gx=>?_
 have u01:Upd T.n (But x.r) T T1:=Upd.refl.new.then u1 (Nat.le_succ _)
 have X1:=X.but gx u01
 have se1:=se.but gx gx1 u01
 obtain ⟨_,T2,h2,rfl,row,X2,u2⟩:=dH ok hG (d:=d+6) (t:=t) (cl:=cl) (chs:=[(cr,ch)]) X1 sz tr1 (Nat.le_succ_of_le hn) gc (fun y m=>by cases List.mem_singleton.mp m; exact hcr) (lb rfl) ⟨hk,trivial⟩
 apply gH;clear gH
 have ga2:=u2.get ⟨aJ X1.hs ga rfl,Nat.ne_of_gt (Nat.lt_of_lt_of_le (aP X.hr) (Nat.le_trans (Nat.le_succ _) lc))⟩ ga
 have hs:=X.hs
 have hs1:=X1.hs
 refine cA ok (l:=[(1735222900,_),(126883592042095,_),(1902540148,_)]) (tF hG rfl) rfl fun lz hz Qz hQ=>?_
 have hz0:=hz 1735222900 _ rfl
 have hz1:=hz 126883592042095 _ rfl
 have hz2:=hz 1902540148 _ rfl
 clear hz
 apply am
 apply jp
 apply cD ok
 exact (by trivial)
 ·trivial
 exact tM hG rfl
 exact rfl
 refine aC (by trivial) ?_
 apply aA
 apply d5
 refine aC (by trivial) ?_
 apply au
 refine d0 (lb rfl) ?_
 apply aA
 apply oh
 apply au
 refine bK (h1) ?_
 refine sZ (.inl g1) rfl ?_
 refine aV (bp ok (by exact aa rfl (aa rfl (aa rfl ‹_›))) (by trivial) (by exact tM hG rfl) (by exact rfl) (ah (by exact aa rfl (aa rfl ak)) (ah (by exact aa rfl ak) ae)) (h2)) ?_
 refine aK (di (aj (by exact ak)) aD (bR (j:=0) ga2 rfl (lb rfl))) ?_
 apply hQ
 exact ⟨rfl,_,row,X2,rfl,rfl,se1.keep X1.hs X1.hr u2,(u01.weak (Nat.le_refl _) fun _ _ p=>p.2.2).then (u2.weak (Nat.le_refl _) fun _ _ p=>⟨p.1,p.2.1⟩) u01.1⟩
theorem m8 {x:Sn} {ss:List Sn} {ep sl:Nat} {xs:List Sp} (X:aM T s lr sp st sf rows es) (sz:rows.length<49) (se:bu T sf.ses ep ss) (mx:x∈ss) (hk:ku c (d+8) s x.num x.u sf es xs) (hx:∀ y∈xs,gd T y) (hsl:T.get sl=some (.list (xs.map Sp.rf))) (l20:xs.length<20) (l0:0<xs.length) (hn:1≤T.n) :
  CaP c T 653 [.ref s,.int x.num,.ref sl] (d+10) fun v T'=>∃ (sf':SF) (row:Rn) (crs:List (Nat × Ch)),crs.map (·.2)=xs.map Sp.ch∧aM T' s lr sp st sf' (rows ++ [row]) (chE (sf.rev+1) es crs)∧sf'.ses=sf.ses∧sf'.rev=sf.rev+1∧bu T' sf.ses ep ss∧Upd T.n (KS s lr x.r) T T':=by
 refine gp fun gP gH=>?_
 obtain ⟨_,T1,h1,rt,t,cl,al,crs,rfl,g1,e1,tr1,okc,gc,hch,ga,u1,lc,gx1⟩:=kn ok hG (d:=d) (b:=true) X.hs se mx X.tr hk hx hsl l20 hn
 refine zAE (se.he x mx) fun px hh gx=>?_
 apply gH;clear gH
 have X1:=X.but gx u1
 have se1:=se.but gx gx1 u1
 have le:crs.length=xs.length:=by have:=congrArg List.length e1; rw [LQ,LQ] at this; exact this
 obtain ⟨_,T2,h2,rfl,row,X2,u2⟩:=dH ok hG (d:=d+6) (t:=t) (cl:=cl) (chs:=crs) X1 sz tr1 hn gc hch (by rw [le]; exact Nat.lt_trans l20 (lb rfl)) okc
 have hs:=X.hs
 have hs1:=X1.hs
 refine cA ok (l:=[(1735222900,_),(126883592042095,_),(500118746484,_)]) (tF hG rfl) rfl fun lz hz Qz hQ=>?_
 have hz0:=hz 1735222900 _ rfl
 have hz1:=hz 126883592042095 _ rfl
 have hz2:=hz 500118746484 _ rfl
 clear hz
 apply am
 apply jp
 apply cD ok
 exact (by trivial)
 ·trivial
 exact tM hG rfl
 exact rfl
 refine aC (by trivial) ?_
 refine aC (by trivial) ?_
 apply aA
 apply oh
 apply au
 refine bK (h1) ?_
 refine sZ (.inl g1) rfl ?_
 refine bF (az (t:=true) (aN ok (tG hG rfl) (.inl ⟨_,rfl⟩) (ah (by exact aa rfl ak) ae) (eg gc (lt4 (Nat.le_of_lt (by rw [le]; exact l20)) rfl))) aD (by exact cmt jd (decide_eq_true (by rw [le]; exact Int.ofNat_lt.mpr l0)))) ?_
 refine aV (bp ok (by exact aa rfl (aa rfl (aa rfl ‹_›))) (by trivial) (by exact tM hG rfl) (by exact rfl) (ah (by exact aa rfl (aa rfl ak)) (ah (by exact aa rfl ak) ae)) (h2)) ?_
 apply ax
 refine aK (aj (by exact ak)) ?_
 apply hQ
 exact ⟨_,row,crs,e1,X2,rfl,rfl,se1.keep X1.hs X1.hr u2,(u1.weak (Nat.le_refl _) fun _ _ p=>p.2.2).then (u2.weak (Nat.le_refl _) fun _ _ p=>⟨p.1,p.2.1⟩) u1.1⟩
end
theorem KT.low {n lo:Nat} {T T':Hp} (u:Upd n (KT lo) T T') (h:lo≤n):Upd lo All T T':=⟨u.1,fun r a q _ g=>u.2 r a (Nat.lt_of_lt_of_le q h) (.inl q) g⟩
noncomputable abbrev agB:PSs:=.cons (.expr (.meth (.loc 1717990261) 525822161250 (.cons (.loc 8030035183836554867) (.cons (.loc 112598731352420) .nil)))) .nil
noncomputable abbrev agR:PSs:=.cons (.ite (.cmp .gt (.loc 8030035183836554867) (.attr (.attr (.loc 1735222900) 8462379648668561268) 8030035183836554867)) (.cons (.for1 [112598731352420] (.loc 32763696029788516) agB) .nil) .nil) .nil
section
variable {c:Cx} (ok:Ok c) (hG:c.G=G) {d s lr sp st lg t:Nat} {T T0:Hp} {es:Es} {sf:SF} {rows:List Rn}
include ok hG
theorem qD {cs:Nat} {chs:List (Nat × Ch)} {rev:Int} (n0:1≤T0.n) (hcs:T0.get cs=some (.tuple (chs.map cRf))) (hch:∀ y∈chs,dX T0 y.1 y.2) (l:List (Nat × Ch)):∀ (pr:List (Nat × Ch)) (T:Hp) (loc:Loc) (es:Es),chs=pr ++ l→Upd T0.n All T0 T→aB T T0.n t es→fj rev es l→lk loc 1717990261=some (.ref t)→lk loc 8030035183836554867=some (.int rev) →
  ∃ loc' T',Lo c [112598731352420] cs .tuple pr.length agB (d+5) loc T (.nxt loc') T'∧Upd T0.n All T0 T'∧aB T' T0.n t (chE rev es l)∧lk loc' 1717990261=some (.ref t)∧lk loc' 1735222900=lk loc 1735222900:=by
 induction l with
 | nil=>
  intro pr T loc es hx u tr hk h1 h2
  rw [List.append_nil] at hx; subst hx
  exact ⟨_,_,mT (vG (u.get trivial hcs) (cq _ _)),u,tr,h1,rfl⟩
 | cons y l ih=>
  intro pr T loc es hx u tr hk h1 h2
  have my:y∈chs:=hx▸List.mem_append_right _ (.head _)
  refine gp fun gP gH=>?_
  refine zEEALA (iX ok hG (d:=d) (rev:=rev) tr ((hch y my).upd (P:=All) u fun _ _ _=>trivial) hk.1 u.1 n0) fun T1 ha tr1 u1=>?_
  have u2:Upd T0.n All T0 T1:=u.trans (KT.low u1 u.1)
  obtain ⟨loc',T',w,a1,a2,a3,a4⟩:=ih (pr ++ [y]) T1 (pt loc 112598731352420 (.ref y.1)) _ (by rw [hx,List.append_assoc]; rfl) u2 tr1 hk.2 (by rw [bc,if_neg (by decide)]; exact h1) (by rw [bc,if_neg (by decide)]; exact h2)
  apply gH;clear gH
  rw [List.length_append] at w
  refine zEEEA (id tr) fun dr ep xs t3 hx3=>?_
  have:ExP c (d+5) (pt loc 112598731352420 (.ref y.1)) T agB (fun l T2=>l=pt loc 112598731352420 (.ref y.1)∧T2=T1) (fun _ _=>False):=by
   apply am; apply kO
   refine cD ok (by rw [bc,if_neg (by decide)]; exact h1) t3.ht (tM hG rfl) rfl ?_
   refine aC (by rw [bc,if_neg (by decide)]; exact h2) ?_
   refine aC (by rw [bc,if_pos rfl]) ?_
   apply au
   refine bK ha ?_
   apply ax
   exact ⟨rfl,rfl⟩
  obtain ⟨_,_,hb,rfl,rfl⟩ | ⟨_,_,_,f⟩:=this
  ·exact ⟨loc',T',gJ (vG (u.get trivial hcs) (by rw [hx]; exact bV _ _ _ _)) aX hb w,a1,a2,a3,by rw [a4,bc,if_neg (by decide)]⟩
  ·exact f.elim
theorem pW {es':Es} (n0:1≤T0.n) (hl:T0.get lg=some (jL lr sp)) (hr:T0.get lr=some (.list (rows.map Rn.rf))) (rn:∀ x∈rows,jD T0 x) (hp:T0.get sp=some (ug st)) (l:List Rn):∀ (pr:List Rn) (T:Hp) (loc:Loc) (es:Es),rows=pr ++ l→Upd T0.n All T0 T→aB T T0.n t es→Rep es l es'→lk loc 1717990261=some (.ref t)→lk loc 1735222900=some (.ref lg) →
  ∃ loc' T',Lo c [8030035183836554867,1818520181,32763696029788516] lr .list pr.length agR (d+5) loc T (.nxt loc') T'∧Upd T0.n All T0 T'∧aB T' T0.n t es'∧lk loc' 1717990261=some (.ref t):=by
 induction l with
 | nil=>
  intro pr T loc es hx u tr hk h1 h2
  rw [List.append_nil] at hx; subst hx
  cases hk
  exact ⟨_,_,mT (cj (u.get trivial hr) (cq _ _)),u,tr,h1⟩
 | cons x l ih=>
  intro pr T loc es hx u tr hk h1 h2
  have mx:x∈rows:=hx▸List.mem_append_right _ (.head _)
  have rx:=rn x mx
  have kl:∀ k,k≠8030035183836554867→k≠1818520181→k≠32763696029788516→lk (pt (pt (pt loc 8030035183836554867 (.int x.rev)) 1818520181 (.int x.tick)) 32763696029788516 (.ref x.cs)) k=lk loc k:=fun k q1 q2 q3=>by rw [bc,if_neg q3,bc,if_neg q2,bc,if_neg q1]
  have k1:=(kl 1717990261 (by decide) (by decide) (by decide)).trans h1
  have k2:=(kl 1735222900 (by decide) (by decide) (by decide)).trans h2
  have k3:lk (pt (pt (pt loc 8030035183836554867 (.int x.rev)) 1818520181 (.int x.tick)) 32763696029788516 (.ref x.cs)) 8030035183836554867=some (.int x.rev):=by rw [bc,if_neg (by decide),bc,if_neg (by decide),bc,if_pos rfl]
  have k4:lk (pt (pt (pt loc 8030035183836554867 (.int x.rev)) 1818520181 (.int x.tick)) 32763696029788516 (.ref x.cs)) 32763696029788516=some (.ref x.cs):=by rw [bc,if_pos rfl]
  refine gp fun gP gH=>?_
  refine zEEAAAA (qD ok hG (d:=d) (rev:=x.rev) n0 rx.h2 rx.h3 x.chs [] T _ es rfl u tr hk.1 k1 k3) fun loc1 T1 w1 u1 tr1 b1 b2=>?_
  obtain ⟨loc',T',w,a1,a2,a3⟩:=ih (pr ++ [x]) T1 loc1 _ (by rw [hx,List.append_assoc]; rfl) u1 tr1 hk.2.2 b1 (b2.trans k2)
  apply gH;clear gH
  rw [List.length_append] at w
  have:ExP c (d+5) (pt (pt (pt loc 8030035183836554867 (.int x.rev)) 1818520181 (.int x.tick)) 32763696029788516 (.ref x.cs)) T agR (fun l T2=>l=loc1∧T2=T1) (fun _ _=>False):=by
   apply am; apply dj; apply aT
   refine aE k3 ?_
   apply dJ ok
   refine cx ok k2 (u.get trivial hl) (tA hG rfl) rfl ?_
   refine ft (u.get trivial hp) (tA hG rfl) rfl ?_
   refine bE true (cmt jd (decide_eq_true hk.2.1)) ?_
   apply am; apply hI
   refine aE k4 ?_
   refine jx (ikT (u.get trivial rx.h2)) ?_
   refine qq w1 ?_
   apply ax; apply ax
   exact ⟨rfl,rfl⟩
  obtain ⟨_,_,hb,rfl,rfl⟩ | ⟨_,_,_,f⟩:=this
  ·exact ⟨loc',T',gJ (cj (u.get trivial hr) (by rw [hx]; exact bV _ _ _ _)) (.inr ⟨lb rfl,_,_,rfl,.inl (u.get trivial rx.h1),rfl⟩) hb w,a1,a2,a3⟩
  ·exact f.elim
theorem si (X:aM T s lr sp st sf rows es) (hn:1≤T.n):CaP c T 717 [.ref s] (d+7) fun v T'=>∃ t,v=.ref t∧aB T' T.n t es∧Upd T.n All T T':=by
 have hs:=X.hs
 have hl:=X.hl
 have hp:=X.hp
 refine zEEALA (eP ok hG (d:=d) X.ts hn) fun T1 h1 tr1 u1=>?_
 refine zEEAAA (pW ok hG (d:=d) hn X.hl X.hr X.rn X.hp rows [] T1 [(1735222900,.ref sf.log),(1717990261,.ref T.n)] cS rfl u1 tr1 X.rep rfl rfl) fun loc' T2 w u2 tr2 a1=>?_
 refine zEEEA (id X.ts) fun dr ep xs t3 hx3=>?_
 have ht:=t3.ht
 have hl1:=u1.get trivial hl
 have:CaP c T 366 [.ref sf.log] (d+6) fun v T'=>v=.ref T.n∧aB T' T.n T.n es∧Upd T.n All T T':=by
  refine aH ok (l:=[(1735222900,_)]) (tF hG rfl) rfl fun Qz hQ=>?_
  refine aR (dN ok (fC ok (aO ok rfl (by trivial) (by exact tA hG rfl) (by exact rfl)) (by trivial) (by exact tA hG rfl) (by exact rfl)) (by trivial) (by exact tM hG rfl) (by exact rfl) ae (h1)) ?_
  apply am
  apply hI
  apply cx ok
  exact rfl
  ·trivial
  exact tA hG rfl
  exact rfl
  refine jx (ikL (u1.get trivial X.hr)) ?_
  refine qq (w) ?_
  refine aK (aj (a1)) ?_
  apply hQ
  exact ⟨rfl,tr2,u2⟩
 refine zEEALA this fun T3 h3 tr3 u3=>?_
 refine aH ok (l:=[(1735222900,_)]) (tF hG rfl) rfl fun Qz hQ=>?_
 refine aK (dN ok (aO ok rfl (by trivial) (by exact tA hG rfl) (by exact rfl)) (by trivial) (by exact tM hG rfl) (by exact rfl) ae (h3)) ?_
 apply hQ
 exact ⟨_,rfl,tr3,u3⟩
end
section
variable {c:Cx} (ok:Ok c) (hG:c.G=G) {d s lr sp st lg t:Nat} {T T0:Hp} {es:Es} {sf:SF} {rows:List Rn}
theorem aM.new {T T':Hp} {s lr sp st:Nat} {sf:SF} {rows:List Rn} {es:Es} (X:aM T s lr sp st sf rows es) (u:Upd T.n All T T'):aM T' s lr sp st sf rows es:=⟨u.get trivial X.hs,X.ps,u.get trivial X.hl,u.get trivial X.hr,X.pl,fun y m=>(X.rn y m).upd u fun _ _ _=>trivial,u.get trivial X.hp,X.ts.all u,X.tr.all u,u.get trivial X.wat,u.get trivial X.lea,X.rep,X.lst,X.pos⟩
theorem bu.new {T T':Hp} {sd ep:Nat} {ss:List Sn} (se:bu T sd ep ss) (u:Upd T.n All T T'):bu T' sd ep ss:=⟨u.get trivial se.hd,fun y m=>⟨(se.he y m).1,let ⟨h,g⟩:=(se.he y m).2; ⟨h,u.get trivial g⟩⟩,se.nd⟩
include ok hG
theorem pY {x:Sn} {ss:List Sn} {ep:Nat} {p:List Nat} (X:aM T s lr sp st sf rows es) (sz:rows.length<49) (se:bu T sf.ses ep ss) (mx:x∈ss) (hp:OkP p) (ne:p≠[47]) (rc:Rch es (bZ p)) (hu:x.u≠[42]) (h:okC es (crC p [] false x.num)) (hn:1≤T.n) :
  CaP c T 616 [.ref s,.int x.num,.str p] (d+12) fun v T'=>v=.str p∧∃ (sf':SF) (row:Rn),aM T' s lr sp st sf' (rows ++ [row]) (cv (sf.rev+1) es (crC p [] false x.num))∧sf'.ses=sf.ses∧sf'.rev=sf.rev+1∧bu T' sf.ses ep ss∧Upd T.n (KS s lr x.r) T T':=by
 have un:Upd T.n All T (aq T (.tuple [.str [99,114,101,97,116,101],.str p,.str [],.bool false,.bool false,.none,.none])):=Upd.refl.new
 have hs:=X.hs
 refine aH ok (l:=[(1735222900,_),(126883592042095,_),(1769300593,_),(1651860069,_),(115948722807415,_),(7306654329047250543,_),(440039269997,_),(128047628446323,_)]) (tF hG rfl) rfl fun Qz hQ=>?_
 apply am
 apply iW
 apply cD ok
 exact rfl
 ·trivial
 exact tM hG rfl
 exact rfl
 refine aC rfl ?_
 apply aA
 apply cJ
 apply aA
 apply aY
 refine aC rfl ?_
 refine aC rfl ?_
 refine aC rfl ?_
 refine aC rfl ?_
 refine aC rfl ?_
 refine aC rfl ?_
 apply au
 refine d0 (lb rfl) ?_
 apply au
 refine CaP.imp (su ok hG (d:=d+1) (X.new un) sz (se.new un) mx (hY ok hG (tl:=crD) hp ne rc hu (Nat.le_refl 5) rfl h) h rfl (lb rfl) (ag _ _) (Nat.le_succ_of_le hn)) ?_
 intro _ T9 gX0
 refine zAEEAAA gX0 fun gR0 sf' row r1 r2 r3 gC0=>?_
 refine zA gC0 fun r4 r5=>?_
 clear gX0
 subst gR0
 apply hQ
 exact ⟨rfl,sf',row,r1,r2,r3,r4,un.a.then r5 (Nat.le_succ _)⟩
end
noncomputable abbrev qK (q:List Nat × En):List AV:=.str q.1 :: q.2.vs
structure Rw where
 r:Nat
 q:List Nat × En
noncomputable abbrev Rw.rf (x:Rw):AV:=.ref x.r
noncomputable abbrev rwV:PE:=.bin .add (.tuple (.cons (.loc 1769300593) .nil)) (.meth (.sub (.attr (.loc 1735222900) 32763704688078694) (.loc 1769300593)) 7893107 .nil)
section
variable {c:Cx} (ok:Ok c) (hG:c.G=G) {d lo t dr ep:Nat} {T:Hp} {xs:List Nd} {es:Es}
include ok hG
theorem wy {e:En} {r:Nat} (h:T.get r=some e.ob):Ca c 203 [.ref r] (d+1) T (.ref T.n) (aq T (.tuple e.vs)):=by
 have:CaP c T 203 [.ref r] (d+1) fun u T'=>u=.ref T.n∧T'=aq T (.tuple e.vs):=by
  refine aH ok (l:=[(1735222900,_)]) (tF hG rfl) rfl fun Qz hQ=>?_
  refine aK (bW (ai (aO ok rfl (by trivial) (by exact tA hG rfl) (by exact rfl)) (ai (aO ok rfl (by trivial) (by exact tA hG rfl) (by exact rfl)) (ai (aO ok rfl (by trivial) (by exact tA hG rfl) (by exact rfl)) (ai (aO ok rfl (by trivial) (by exact tA hG rfl) (by exact rfl)) (ai (aO ok rfl (by trivial) (by exact tA hG rfl) (by exact rfl)) (ai (aO ok rfl (by trivial) (by exact tA hG rfl) (by exact rfl)) (ai (aO ok rfl (by trivial) (by exact tA hG rfl) (by exact rfl)) (ai (aO ok rfl (by trivial) (by exact tA hG rfl) (by exact rfl)) (ai (aO ok rfl (by trivial) (by exact tA hG rfl) (by exact rfl)) ae))))))))) (lb rfl)) ?_
  apply hQ
  exact ⟨rfl,rfl⟩
 refine zEEAL this fun _ h gR0=>?_
 subst gR0
 exact h
theorem p7 {n0 A src:Nat} {ps:List (List Nat × En)} (hA:n0≤A) (h1:1≤A) (sz:ps.length<60) (t3:cg T lo t dr ep xs) (hT:T.n=n0) (hps:∀ q∈ps,∃ x∈xs,x.pe=q) (l:List (List Nat × En)):∀ (pr:List (List Nat × En)) (rs:List Rw) (T1:Hp) (loc:Loc),ps=pr ++ l→Upd n0 All T T1→T1.get src=some (.list (ps.map fun q=>.str q.1))→src≠A→T1.get A=some (.list (rs.map Rw.rf))→rs.map Rw.q=pr→(∀ x∈rs,T1.get x.r=some (.tuple (qK x.q)))→n0≤T1.n→lk loc 1735222900=some (.ref t) →
  CoP c (d+1) loc T1 (.list rwV) A [1769300593] src .list pr.length .nil fun T'=>∃ rs':List Rw,T'.get A=some (.list (rs'.map Rw.rf))∧rs'.map Rw.q=ps∧(∀ x∈rs',T'.get x.r=some (.tuple (qK x.q)))∧Upd n0 All T T':=by
 induction l with
 | nil=>
  intro pr rs T1 loc hx u hs ne ha e1 hr hn h2
  rw [List.append_nil] at hx; subst hx
  exact cI (cj hs (cq _ _)) ⟨rs,ha,e1,hr,u⟩
 | cons q l ih=>
  intro pr rs T1 loc hx u hs ne ha e1 hr hn h2
  have mq:q∈ps:=hx▸List.mem_append_right _ (.head _)
  refine zEA (hps q mq) fun x mx ex=>?_
  cases ex
  subst hT
  have ta:=t3.all u
  have ht:=ta.ht
  have hd:=ta.hd
  have ge:=ta.he x mx
  have dx:=dY mx t3.np
  have k1:lk (pt loc 1769300593 (.str x.p)) 1769300593=some (.str x.p):=by rw [bc,if_pos rfl]
  have k2:lk (pt loc 1769300593 (.str x.p)) 1735222900=some (.ref t):=by rw [bc,if_neg (by decide)]; exact h2
  have hro:=wy ok hG (d:=d) (T:=aq T1 (.tuple [.str x.p])) (af ge)
  have rl:rs.length<4000:=by
   have:=congrArg List.length e1
   rw [LQ] at this
   rw [this]; rw [hx,List.length_append] at sz
   exact lt4 (Nat.le_of_lt (Nat.lt_of_le_of_lt (Nat.le_add_right _ _) sz)) rfl
  refine cN (cj hs (by rw [hx]; exact bV (fun q:List Nat × En=>AV.str q.1) _ _ _)) aX ?_
  have ha3:(aq (aq (aq T1 (.tuple [.str x.p])) (.tuple x.e.vs)) (.tuple ([.str x.p] ++ x.e.vs))).get A=some (.list (rs.map Rw.rf)):=af (af (af ha))
  apply cH
  apply bd
  apply i8
  apply cJ
  refine aC k1 ?_
  apply au
  refine d0 (lb rfl) ?_
  apply gY ok
  apply cL
  apply cx ok
  exact k2
  ·exact af ‹_›
  exact tA hG rfl
  exact rfl
  refine aE k1 ?_
  refine ej (cQ (af hd) cR dx) ?_
  apply iQ
  ·exact af ‹_›
  exact tM hG rfl
  exact rfl
  apply au
  refine bK (hro) ?_
  refine n9 (wa (af (ag _ _)) (ag _ _) (lb rfl) (List.cons_ne_nil _ _) (List.cons_ne_nil _ _)) ?_
  apply mD
  exact ha3
  rw [LQ]; exact rl
  first | assumption | exact Nat.le_add_left 1 _ | exact lb rfl
  have:=ih (pr ++ [x.pe]) (rs ++ [⟨(aq (aq T1 (.tuple [.str x.p])) (.tuple x.e.vs)).n,x.pe⟩]) _ (pt loc 1769300593 (.str x.p)) (by rw [hx,List.append_assoc]; rfl) (u.new.new.new.put hA) (cb ne (af (af (af hs)))) ne (by rw [List.map_append]; exact ac ha3) (by rw [List.map_append,e1]; rfl) (fun y my=>?_) (Nat.le_succ_of_le (Nat.le_succ_of_le (Nat.le_succ_of_le hn))) k2
  ·rw [List.length_append] at this
   exact this
  ·rcases List.mem_append.mp my with my | my
   ·exact an ha3 (af (af (af (hr y my)))) rfl
   ·cases List.mem_singleton.mp my
    exact an ha3 (ag _ _) rfl
theorem pC {m:List (List Nat × En)} (h:aB T lo t es) (hn:1≤T.n) (pm:m.Perm es) (so:Srt slt (m.map (·.1))):CaP c T 265 [.ref t] (d+2) fun u T'=>∃ (r:Nat) (rs:List Rw),u=.ref r∧T'.get r=some (.list (rs.map Rw.rf))∧rs.map Rw.q=m∧(∀ x∈rs,T'.get x.r=some (.tuple (qK x.q)))∧Upd T.n All T T':=by
 refine zEEEA h fun dr ep xs t3 gR0=>?_
 subst gR0
 have ht:=t3.ht
 have hd:=t3.hd
 have lx:(xs.map Nd.p).length<64:=by rw [LQ]; exact Nat.lt_trans t3.sz (lb rfl)
 have lm:m.length<60:=by rw [pm.length_eq,LQ]; exact t3.sz
 have pm2:(m.map (·.1)).Perm (xs.map Nd.p):=by
  have:=pm.map (·.1)
  rw [List.map_map] at this; exact this
 obtain ⟨T',h2,rs,g1,g2,g3,u2⟩:=p7 ok hG (d:=d) (T:=T) (n0:=T.n) (A:=(aq T (.list ((m.map (·.1)).map .str))).n) (src:=T.n) (ps:=m) (Nat.le_succ _) (Nat.le_add_left 1 _) lm t3 rfl (fun q mq=>List.mem_map.mp (pm.subset mq)) m [] [] (aq (aq T (.list ((m.map (·.1)).map .str))) (.list [])) (rm [bq,1769300593] [(1735222900,.ref t)]) rfl Upd.refl.new.new (by have:=af (o:=.list []) (ag T (.list ((m.map (·.1)).map .str))); rw [List.map_map] at this ⊢; exact this) (Nat.ne_of_lt (Nat.lt_succ_self _)) (ag _ _) rfl (fun x mx=>by cases mx) (Nat.le_succ_of_le (Nat.le_succ _)) rfl
 refine aH ok (l:=[(1735222900,_)]) (tF hG rfl) rfl fun Qz hQ=>?_
 refine aK (dQ (aN ok (tG hG rfl) (.inl ⟨_,rfl⟩) (ai (aO ok rfl (by trivial) (by exact tA hG rfl) (by exact rfl)) ae) (eW (l:=xs.map Nd.p) (m:=m.map (·.1)) (by have:=eI (c:=c) hd (by rw [LQ,← LQ (f:=Nd.p)]; exact lx); rw [hJ] at this; rw [List.map_map]; exact this) lx pm2 so)) (ikL (ag _ _)) (h2)) ?_
 apply hQ
 exact ⟨_,rs,rfl,g1,g2,g3,u2⟩
end
theorem uV {c:Cx} {T:Hp} {m:List (List Nat × En)}:∀ {rs rs':List Rw},rs.map Rw.q=m→rs'.map Rw.q=m→(∀ x∈rs,T.get x.r=some (.tuple (qK x.q)))→(∀ x∈rs',T.get x.r=some (.tuple (qK x.q)))→kY c T 1 (rs.map Rw.rf) (rs'.map Rw.rf):=by
 induction m with
 | nil=>
  intro rs rs' e1 e2 _ _
  cases List.map_eq_nil_iff.mp e1
  cases List.map_eq_nil_iff.mp e2
  exact lh
 | cons q m ih=>
  intro rs rs' e1 e2 h1 h2
  cases rs with
  | nil=>cases e1
  | cons x rs=>
  cases rs' with
  | nil=>cases e2
  | cons y rs'=>
  have a1:=(List.cons.inj e1).1
  have a2:=(List.cons.inj e2).1
  have g1:=h1 x (.head _)
  have g2:=h2 y (.head _)
  rw [a1] at g1
  rw [a2] at g2
  exact gj (qY (.inl ⟨g1,g2⟩) mY) (ih (List.cons.inj e1).2 (List.cons.inj e2).2 (fun z m=>h1 z (.tail _ m)) fun z m=>h2 z (.tail _ m))
noncomputable def oN (ss:List Sn) (e:En):Prop:=(e.own=.none∨∃ x∈ss,e.own=.int x.num)∧e.lea=.none
noncomputable abbrev faB:PSs:=(.cons (.asg 525923086182 (.sub (.attr (.attr (.loc 1735222900) 1717990261) 32763704688078694) (.loc 1769300593))) (.cons (.ite (.and (.cons (.cmp .isnt (.attr (.loc 525923086182) 495639820400) .none) (.cons (.cmp .notin (.attr (.loc 525923086182) 495639820400) (.attr (.loc 1735222900) 8390048233337153140)) .nil))) (.cons (.expr (.meth (.loc 435661729895) 111529134485858 (.cons (.tuple (.cons (.str [111,119,110,101,114,32,105,115,32,111,118,101,114]) (.cons (.loc 1769300593) .nil))) .nil))) .nil) .nil) (.cons (.ite (.and (.cons (.cmp .isnt (.attr (.loc 525923086182) 440039269997) .none) (.cons (.cmp .notin (.attr (.loc 525923086182) 440039269997) (.attr (.loc 1735222900) 127983388092013)) .nil))) (.cons (.expr (.meth (.loc 435661729895) 111529134485858 (.cons (.tuple (.cons (.str [108,101,97,115,101,32,105,115,32,111,118,101,114]) (.cons (.loc 1769300593) .nil))) .nil))) .nil) .nil) .nil)))
section
variable {c:Cx} (ok:Ok c) (hG:c.G=G) {d s lr sp st:Nat} {T:Hp} {es:Es} {sf:SF} {rows:List Rn}
include ok hG
theorem lU {src ep dr ep2 lo:Nat} {ss:List Sn} {xs:List Nd} {ps:List (List Nat × En)} (hs:T.get s=some sf.ob) (se:bu T sf.ses ep ss) (t3:cg T lo sf.tree dr ep2 xs) (hps:∀ q∈ps,∃ x∈xs,x.pe=q) (hgo:∀ x∈xs,oN ss x.e) (hsrc:T.get src=some (.list (ps.map fun q=>.str q.1))) (l:List (List Nat × En)):∀ (pr:List (List Nat × En)) (loc:Loc),ps=pr ++ l→lk loc 1735222900=some (.ref s)→∃ loc',Lo c [1769300593] src .list pr.length faB d loc T (.nxt loc') T∧lk loc' 1735222900=some (.ref s)∧lk loc' 435661729895=lk loc 435661729895:=by
 induction l with
 | nil=>
  intro pr loc hx h1
  rw [List.append_nil] at hx; subst hx
  exact ⟨_,mT (cj hsrc (cq _ _)),h1,rfl⟩
 | cons q l ih=>
  intro pr loc hx h1
  have mq:q∈ps:=hx▸List.mem_append_right _ (.head _)
  refine zEA (hps q mq) fun x mx ex=>?_
  cases ex
  have ht:=t3.ht
  have hd:=t3.hd
  have ge:=t3.he x mx
  have dx:=dY mx t3.np
  refine zA (hgo x mx) fun ho hl=>?_
  have k1:lk (pt loc 1769300593 (.str x.p)) 1769300593=some (.str x.p):=by rw [bc,if_pos rfl]
  have k2:lk (pt loc 1769300593 (.str x.p)) 1735222900=some (.ref s):=by rw [bc,if_neg (by decide)]; exact h1
  have k3:lk (pt (pt loc 1769300593 (.str x.p)) 525923086182 (.ref x.r)) 525923086182=some (.ref x.r):=by rw [bc,if_pos rfl]
  have k4:lk (pt (pt loc 1769300593 (.str x.p)) 525923086182 (.ref x.r)) 1735222900=some (.ref s):=by rw [bc,if_neg (by decide)]; exact k2
  obtain ⟨loc',w,a1,a2⟩:=ih (pr ++ [x.pe]) (pt (pt loc 1769300593 (.str x.p)) 525923086182 (.ref x.r)) (by rw [hx,List.append_assoc]; rfl) k4
  rw [List.length_append] at w
  have:ExP c d (pt loc 1769300593 (.str x.p)) T faB (fun l T1=>l=pt (pt loc 1769300593 (.str x.p)) 525923086182 (.ref x.r)∧T1=T) (fun _ _=>False):=by
   rcases ho with ho | ⟨y,my,ho⟩
   ·skip
    refine aR (di (fC ok (aO ok (k2) (by trivial) (by exact tA hG rfl) (by exact rfl)) (by trivial) (by exact tA hG rfl) (by exact rfl)) (aj (k1)) (cQ hd cR dx)) ?_
    refine aL (bQ (aZ (az (t:=false) (aO ok (k3) (by trivial) (by exact tA hG rfl) (by exact rfl)) bG (by rw [ho]; exact bv)))) ?_
    refine aL (bQ (aZ (az (t:=false) (aO ok (k3) (by trivial) (by exact tA hG rfl) (by exact rfl)) bG (by rw [hl]; exact bv)))) ?_
    apply ax
    exact ⟨rfl,rfl⟩
   ·skip
    refine aR (di (fC ok (aO ok (k2) (by trivial) (by exact tA hG rfl) (by exact rfl)) (by trivial) (by exact tA hG rfl) (by exact rfl)) (aj (k1)) (cQ hd cR dx)) ?_
    refine aL (bQ (bn (az (t:=true) (aO ok (k3) (by trivial) (by exact tA hG rfl) (by exact rfl)) bG (by rw [ho]; exact bN rfl)) (aZ (az (t:=false) (aO ok (k3) (by trivial) (by exact tA hG rfl) (by exact rfl)) (aO ok (k4) (by trivial) (by exact tA hG rfl) (by exact rfl)) (by rw [ho]; exact cmt (nZ se.hd bO) (by rw [dy my se.nd]; rfl)))))) ?_
    refine aL (bQ (aZ (az (t:=false) (aO ok (k3) (by trivial) (by exact tA hG rfl) (by exact rfl)) bG (by rw [hl]; exact bv)))) ?_
    apply ax
    exact ⟨rfl,rfl⟩
  obtain ⟨_,_,hb,rfl,rfl⟩ | ⟨_,_,_,f⟩:=this
  ·exact ⟨loc',gJ (cj hsrc (by rw [hx]; exact bV (fun q:List Nat × En=>AV.str q.1) _ _ _)) aX hb w,a1,by rw [a2,bc,if_neg (by decide),bc,if_neg (by decide)]⟩
  ·exact f.elim
theorem qm {ep:Nat} {ss:List Sn} {m:List (List Nat × En)} (X:aM T s lr sp st sf rows es) (se:bu T sf.ses ep ss) (hgo:∀ q∈es,oN ss q.2) (pm:m.Perm es) (so:Srt slt (m.map (·.1))) (hn:1≤T.n):CaP c T 724 [.ref s] (d+8) fun v T'=>∃ r,v=.ref r∧T'.get r=some (.list [])∧Upd T.n All T T':=by
 refine zEEEA (id X.tr) fun dr ep2 xs t3 hx=>?_
 subst hx
 have hs:=X.hs
 have ht:=t3.ht
 have hd:=t3.hd
 have lx:(xs.map Nd.p).length<64:=by rw [LQ]; exact Nat.lt_trans t3.sz (lb rfl)
 have pm2:(m.map (·.1)).Perm (xs.map Nd.p):=by
  have:=pm.map (·.1)
  rw [List.map_map] at this; exact this
 have un:Upd T.n All T (aq (aq T (.list [])) (.list ((m.map (·.1)).map .str))):=Upd.refl.new.new
 have hs2:=un.get trivial hs
 obtain ⟨loc',w,a1,a2⟩:=lU ok hG (d:=d+7) (T:=aq (aq T (.list [])) (.list ((m.map (·.1)).map .str))) (src:=(aq T (.list [])).n) (ps:=m) hs2 ⟨un.get trivial se.hd,fun y m=>⟨(se.he y m).1,let ⟨h,g⟩:=(se.he y m).2; ⟨h,un.get trivial g⟩⟩,se.nd⟩ (t3.all un) (fun q mq=>List.mem_map.mp (pm.subset mq)) (fun x mx=>hgo _ (List.mem_map_of_mem mx)) (by have:=ag (aq T (.list [])) (.list ((m.map (·.1)).map .str)); rw [List.map_map] at this ⊢; exact this) m [] [(1735222900,.ref s),(435661729895,.ref T.n)] rfl rfl
 have X2:aM (aq (aq T (.list [])) (.list ((m.map (·.1)).map .str))) s lr sp st sf rows (xs.map Nd.pe):=⟨hs2,X.ps,un.get trivial X.hl,un.get trivial X.hr,X.pl,fun y m=>(X.rn y m).upd un fun _ _ _=>trivial,un.get trivial X.hp,X.ts.all un,X.tr.all un,un.get trivial X.wat,un.get trivial X.lea,X.rep,X.lst,X.pos⟩
 refine gp fun gP gH=>?_
 refine zEEAELA (si ok hG (d:=d) X2 (Nat.le_succ_of_le (Nat.le_succ_of_le hn))) fun T3 t9 h3 tr3 u3=>?_
 have u03:=un.then u3 un.1
 refine zEEAEELA (pC ok hG (d:=d+5) tr3 (Nat.le_trans hn u03.1) pm so) fun T4 r4 rs4 h4 g4 gC0=>?_
 refine zAA gC0 fun e4 q4 u4=>?_
 have u04:=u03.then u4 u03.1
 refine zEEAEELA (pC ok hG (d:=d+5) (X.tr.all u04) (Nat.le_trans hn u04.1) pm so) fun T5 r5 rs5 h5 g5 gC0=>?_
 refine zAA gC0 fun e5 q5 u5=>?_
 have u05:=u04.then u5 u04.1
 have hs4:=u04.get trivial hs
 have ht4:=u04.get trivial ht
 refine zEEEA (id tr3) fun dr3 ep3 xs3 t33 hx3=>?_
 apply gH;clear gH
 have ht3:=t33.ht
 have gf:T5.get T.n=some (.list []):=u5.get trivial (u4.get trivial (u3.get trivial (af (ag _ _))))
 refine aH ok (l:=[(1735222900,_)]) (tF hG rfl) rfl fun Qz hQ=>?_
 refine aR (cT ae (lb rfl)) ?_
 apply am
 apply hI
 refine bA ok (tG hG rfl) (by first | exact .inl ⟨_,rfl⟩ | exact .inr ⟨_,rfl⟩) ?_
 apply aA
 apply dJ ok
 apply cx ok
 exact rfl
 ·exact af ‹_›
 exact tA hG rfl
 exact rfl
 apply ft
 ·exact af ‹_›
 exact tA hG rfl
 exact rfl
 apply au
 refine eF (eW (l:=xs.map Nd.p) (m:=m.map (·.1)) (by have:=eI (c:=c) (af (o:=.list []) hd) (by rw [LQ,← LQ (f:=Nd.p)]; exact lx); rw [hJ] at this; rw [List.map_map]; exact this) lx pm2 so) ?_
 refine jx (ikL (ag _ _)) ?_
 refine qq (w) ?_
 refine aL (az (t:=false) (dN ok (bp ok (a1) (hs2) (by exact tM hG rfl) (by exact rfl) ae (h3)) (by trivial) (by exact tM hG rfl) (by exact rfl) ae (h4)) (dN ok (aO ok (a1) (by trivial) (by exact tA hG rfl) (by exact rfl)) (by trivial) (by exact tM hG rfl) (by exact rfl) ae (h5)) (by exact vg (f:=1) (lb rfl) (.inr ⟨u5.get trivial g4,g5⟩) (uV e4 e5 (fun x mx=>u5.get trivial (q4 x mx)) q5))) ?_
 refine aK (aj (a2)) ?_
 apply hQ
 exact ⟨_,rfl,gf,u05⟩
end
theorem aB.offS {T:Hp} {lo t r:Nat} {es:Es} {fs:List (Nat × AV)} {o':AO} (h:aB T lo t es) (g:T.get r=some (.inst 727 fs)):aB (aI T r o') lo t es:=h.off g rfl rfl rfl
section
variable {c:Cx} (ok:Ok c) (hG:c.G=G) {d lo t:Nat} {T:Hp} {es:Es}
include ok hG
theorem pF (tr:aB T lo t es) (hn:1≤T.n):CaP c (aq T (.inst 310 [])) 307 [.ref T.n,.int 0,.ref t] (d+6) fun u T'=>u=.none∧∃ st,T'.get T.n=some (ug st)∧aB T' 1 st es∧Upd T.n All T T':=by
 refine zEEEA (id tr) fun dr ep xs t3 hx=>?_
 have ht:=t3.ht
 have u1:Upd T.n All T (aI (aq T (.inst 310 [])) T.n (.inst 310 [(8030035183836554867,.int 0)])):=Upd.refl.new.put (Nat.le_refl _)
 refine aH ok (l:=[(1735222900,_),(8030035183836554867,_),(1717990261,_)]) (tF hG rfl) rfl fun Qz hQ=>?_
 apply am
 apply eu ok
 refine aE rfl ?_
 apply m7
 exact rfl
 ·exact (ag _ _)
 exact tA hG rfl
 exact lb rfl
 first | assumption | exact Nat.le_add_left 1 _ | exact lb rfl
 apply am
 apply eu ok
 apply cD ok
 exact rfl
 ·exact an (ag _ _) (af ‹_›) rfl
 exact tM hG rfl
 exact rfl
 apply au
 refine CaP.imp (eP ok hG (tr.all u1) (Nat.le_succ_of_le hn)) ?_
 rintro _ T2 ⟨rfl,tr2,u2⟩
 have g2:T2.get T.n=some (.inst 310 [(8030035183836554867,.int 0)]):=u2.get trivial (ac (ag _ _))
 apply m7
 exact rfl
 ·trivial
 exact tA hG rfl
 exact lb rfl
 first | assumption | exact Nat.le_add_left 1 _ | exact lb rfl
 apply ax
 apply hQ
 exact ⟨rfl,_,ac g2,(tr2.off g2 rfl rfl rfl).weak (Nat.le_succ_of_le hn),(u1.then u2 u1.1).put (Nat.le_refl _)⟩
theorem qv (hn:1≤T.n):CaP c (aq T (.inst 369 [])) 328 [.ref T.n] (d+8) fun u T'=>u=.none∧∃ lr sp st,T'.get T.n=some (jL lr sp)∧T'.get lr=some (.list [])∧T'.get sp=some (ug st)∧aB T' 1 st cS∧1≤lr∧Upd T.n All T T':=by
 have u1:Upd T.n All T (aI (aq (aq T (.inst 369 [])) (.list [])) T.n (.inst 369 [(1954050163,.ref (aq T (.inst 369 [])).n)])):=Upd.refl.new.new.put (Nat.le_refl _)
 refine aH ok (l:=[(1735222900,_)]) (tF hG rfl) rfl fun Qz hQ=>?_
 apply am
 apply eu ok
 apply d5
 apply au
 refine d0 (lb rfl) ?_
 apply m7
 exact rfl
 ·exact af (ag _ _)
 exact tA hG rfl
 exact lb rfl
 first | assumption | exact Nat.le_add_left 1 _ | exact lb rfl
 apply am
 apply eu ok
 refine ke ok (tG hG rfl) (tC hG rfl) rfl ?_
 apply aA
 apply bw
 apply aA
 refine ke ok (tG hG rfl) (tC hG rfl) rfl ?_
 apply au
 refine CaP.imp (gM ok hG (d:=d+3) (Nat.le_succ_of_le (Nat.le_succ_of_le hn))) ?_
 rintro _ T2 ⟨rfl,tr2,u2⟩
 apply pM
 apply au
 refine CaP.imp (pF ok hG (d:=d) tr2 (Nat.le_trans (Nat.le_succ_of_le (Nat.le_succ_of_le hn)) u2.1)) ?_
 intro _ T3 gX0
 refine zAEAA gX0 fun gR0 st g3 tr3 u3=>?_
 clear gX0
 subst gR0
 have u23:=u2.then u3 u2.1
 have g4:T3.get T.n=some (.inst 369 [(1954050163,.ref (aq T (.inst 369 [])).n)]):=u23.get trivial (ac (af (ag _ _)))
 have g5:T3.get (aq T (.inst 369 [])).n=some (.list []):=u23.get trivial (an (af (ag _ _)) (ag _ _) rfl)
 apply pM
 apply m7
 exact rfl
 ·trivial
 exact tA hG rfl
 exact lb rfl
 first | assumption | exact Nat.le_add_left 1 _ | exact lb rfl
 refine be ok aD rfl (by exact ac ‹_›) (by exact tA hG rfl) (by exact lb rfl) (by first|assumption|exact Nat.le_add_left 1 _|exact lb rfl) ?_
 apply ax
 apply hQ
 exact ⟨rfl,_,_,st,ac (ac g4),an (ac g4) (an g4 g5 rfl) rfl,an (ac g4) (an g4 g3 rfl) rfl,(tr3.off g4 rfl rfl rfl).off (ac g4) rfl rfl rfl,Nat.le_succ_of_le hn,((u1.then u23 u1.1).put (Nat.le_refl _)).put (Nat.le_refl _)⟩
theorem n7 (hn:1≤T.n):CaP c (aq T (.inst 727 [])) 472 [.ref T.n] (d+10) fun u T'=>u=.none∧∃ (lr sp st:Nat) (sf:SF),aM T' T.n lr sp st sf [] cS∧bu T' sf.ses 0 []∧sf.wat≠sf.ses∧sf.lea≠sf.ses∧sf.cnt=0∧sf.rev=0∧Upd T.n All T T':=by
 refine aH ok (l:=[(1735222900,_),(1902536300,_)]) (tF hG rfl) rfl fun Qz hQ=>?_
 apply am
 apply dj
 apply aT
 refine aE rfl ?_
 apply gG
 refine bE false (by first | exact bv | exact bN rfl | exact bX) ?_
 apply ax
 apply am
 apply eu ok
 refine ke ok (tG hG rfl) (tC hG rfl) rfl ?_
 apply au
 refine CaP.imp (gM ok hG (d:=d+5) (Nat.le_succ_of_le hn)) ?_
 rintro _ T2 ⟨rfl,tr2,u2⟩
 have g2:T2.get T.n=some (.inst 727 []):=u2.get trivial (ag _ _)
 apply pM
 apply m7
 exact rfl
 ·trivial
 exact tA hG rfl
 exact lb rfl
 first | assumption | exact Nat.le_add_left 1 _ | exact lb rfl
 apply am
 apply eu ok
 refine ke ok (tG hG rfl) (tC hG rfl) rfl ?_
 apply au
 refine CaP.imp (qv ok hG (d:=d) (Nat.le_trans (Nat.le_succ_of_le hn) u2.1)) ?_
 intro _ T3 gX0
 refine zAEEEAA gX0 fun gR0 lr sp st g3 g4 gC0=>?_
 refine zAAA gC0 fun g5 tr5 l5 u3=>?_
 clear gX0
 subst gR0
 have g6:T3.get T.n=some (.inst 727 [(1717990261,.ref (aq T (.inst 727 [])).n)]):=u3.get trivial (ac g2)
 have tr3:=(tr2.off g2 (o':=.inst 727 [(1717990261,.ref (aq T (.inst 727 [])).n)]) rfl rfl rfl).all u3
 apply pM
 apply m7
 exact rfl
 ·trivial
 exact tA hG rfl
 exact lb rfl
 first | assumption | exact Nat.le_add_left 1 _ | exact lb rfl
 refine be ok (aj rfl) rfl (by exact ac ‹_›) (by exact tA hG rfl) (by exact lb rfl) (by first|assumption|exact Nat.le_add_left 1 _|exact lb rfl) ?_
 refine be ok aD rfl (by exact ac (ac ‹_›)) (by exact tA hG rfl) (by exact lb rfl) (by first|assumption|exact Nat.le_add_left 1 _|exact lb rfl) ?_
 refine be ok aD rfl (by exact ac (ac (ac ‹_›))) (by exact tA hG rfl) (by exact lb rfl) (by first|assumption|exact Nat.le_add_left 1 _|exact lb rfl) ?_
 refine be ok (kG ok) rfl (by exact af (ac (ac (ac (ac ‹_›))))) (by exact tA hG rfl) (by exact lb rfl) (by first|assumption|exact Nat.le_add_left 1 _|exact lb rfl) ?_
 refine be ok (kG ok) rfl (by exact af (ac (af (ac (ac (ac (ac ‹_›))))))) (by exact tA hG rfl) (by exact lb rfl) (by first|assumption|exact Nat.le_add_left 1 _|exact lb rfl) ?_
 refine be ok (kG ok) rfl (by with_reducible repeat' first|assumption|exact ag _ _|apply ac|apply af|apply an|with_unfolding_all rfl) (by exact tA hG rfl) (by exact lb rfl) (by first|assumption|exact Nat.le_add_left 1 _|exact lb rfl) ?_
 refine be ok aD rfl (by with_reducible repeat' first|assumption|exact ag _ _|apply ac|apply af|apply an|with_unfolding_all rfl) (by exact tA hG rfl) (by exact lb rfl) (by first|assumption|exact Nat.le_add_left 1 _|exact lb rfl) ?_
 apply ax
 apply hQ
 have u03:Upd T.n All T T3:=((Upd.refl.new.then u2 (Nat.le_succ _)).put (Nat.le_refl _)).then u3 (Nat.le_trans (Nat.le_succ _) u2.1)
 refine ⟨rfl,lr,sp,st,⟨_,_,0,0,_,_,_,0⟩,⟨ac (by with_reducible repeat' first|assumption|exact ag _ _|apply ac|apply af|apply an|with_unfolding_all rfl),hn,by with_reducible repeat' first|assumption|exact ag _ _|apply ac|apply af|apply an|with_unfolding_all rfl,show Hp.get _ lr=some (.list []) from by with_reducible repeat' first|assumption|exact ag _ _|apply ac|apply af|apply an|with_unfolding_all rfl,l5,fun x m=>(by cases m),by with_reducible repeat' first|assumption|exact ag _ _|apply ac|apply af|apply an|with_unfolding_all rfl,?_,?_,by with_reducible repeat' first|assumption|exact ag _ _|apply ac|apply af|apply an|with_unfolding_all rfl,by with_reducible repeat' first|assumption|exact ag _ _|apply ac|apply af|apply an|with_unfolding_all rfl,rfl,rfl,Int.le_refl _⟩,⟨show Hp.get _ _=some (.dict [] 0) from by with_reducible repeat' first|assumption|exact ag _ _|apply ac|apply af|apply an|with_unfolding_all rfl,fun x m=>(by cases m),List.nodup_nil⟩,?_,?_,rfl,rfl,?_⟩
 ·(with_reducible repeat' first|assumption|apply aB.offS|refine aB.all ?_ Upd.refl.new|exact ag _ _|apply ac|apply af|apply an|with_unfolding_all rfl)
 ·exact aB.weak (lo:=(aq T (.inst 727 [])).n) (by (with_reducible repeat' first|assumption|apply aB.offS|refine aB.all ?_ Upd.refl.new|exact ag _ _|apply ac|apply af|apply an|with_unfolding_all rfl)) (Nat.le_succ_of_le hn)
 ·exact Nat.ne_of_gt (Nat.lt_succ_of_lt (Nat.lt_succ_self _))
 ·exact Nat.ne_of_gt (Nat.lt_succ_self _)
 ·(with_reducible repeat' first|assumption|exact Upd.refl|apply Upd.new|apply Upd.put|apply Upd.leA)
end
theorem oU {n:Int} {ss:List Sn} (h:n∉ss.map Sn.num):dlk (.int n) (ss.map Sn.dc)=none:=by
 induction ss with
 | nil=>rfl
 | cons x ss ih=>
  have e:x.num≠n:=fun e=>h (e▸.head _)
  show (if decide (x.num=n)=true then _ else _)=_
  rw [if_neg fun q=>e (of_decide_eq_true q)]
  exact ih fun m=>h (.tail _ m)
theorem uM {x:Sn} {ss:List Sn} (h:x.num∉ss.map Sn.num):dpt (.int x.num) (.ref x.r) (ss.map Sn.dc)=(ss ++ [x]).map Sn.dc:=by
 induction ss with
 | nil=>rfl
 | cons y ss ih=>
  have e:y.num≠x.num:=fun e=>h (e▸.head _)
  show (if decide (y.num=x.num)=true then _ else _)=_
  rw [if_neg fun q=>e (of_decide_eq_true q),ih fun m=>h (.tail _ m)]; rfl
theorem aB.keep2 {T T':Hp} {lo t s sd ep:Nat} {es:Es} {ss:List Sn} {sf:SF} (h:aB T lo t es) (ne:es≠[]) (hs:T.get s=some sf.ob) (hd:T.get sd=some (.dict (ss.map Sn.dc) ep)) (u:Upd T.n (fun r _=>r≠s∧r≠sd) T T'):aB T' lo t es:=by
 refine zEEEA h fun dr ep2 xs t3 gR0=>?_
 subst gR0
 refine ⟨dr,ep2,xs,{ t3 with ht:=u.get ⟨aJ hs t3.ht rfl,aJ hd t3.ht rfl⟩ t3.ht,hd:=u.get ⟨aJ hs t3.hd rfl,fun e=>?_⟩ t3.hd,he:=fun x m=>u.get ⟨aJ hs (t3.he x m) rfl,aJ hd (t3.he x m) rfl⟩ (t3.he x m) },rfl⟩
 have:=t3.hd
 rw [e,hd] at this
 cases xs with
 | nil=>exact ne rfl
 | cons y ys=>cases ss with
  | nil=>injection this with q; injection q with q; cases q
  | cons z zs=>injection this with q; injection q with q; injection q with q; injection q with q; cases q
section
variable {c:Cx} (ok:Ok c) (hG:c.G=G) {d s lr sp st:Nat} {T:Hp} {es:Es} {sf:SF} {rows:List Rn}
include ok hG
theorem lJ {i:Int} (h:1≤i):Ca c 173 [.int i] (d+1) T (.int i) T:=by
 have:CaP c T 173 [.int i] (d+1) fun u T'=>u=.int i∧T'=T:=by
  refine aH ok (l:=[(500034726517,_)]) (tF hG rfl) rfl fun Qz hQ=>?_
  refine aL (gz (bn (az (t:=false) (aN ok (tG hG rfl) (.inr ⟨_,rfl⟩) (ah rfl ae) (by first|exact dE|exact dA|exact dz (by (trivial)))) (dk ok (tG hG rfl)) (by first|exact bv|exact bN rfl|exact bX)) (bn (az (t:=false) (aj rfl) aD (by exact cmt eY (decide_eq_false (Int.not_lt.mpr h)))) cB))) ?_
  refine aK (aj rfl) ?_
  apply hQ
  exact ⟨rfl,rfl⟩
 refine zEEAL this fun _ h gR0=>?_
 subst gR0
 exact h
theorem uN {u:List Nat} (h1:u≠[]) (h2:u≠[42]):Ca c 180 [.str u] (d+1) T (.str u) (aq T (.list [.str [],.str [42]])):=by
 have:CaP c T 180 [.str u] (d+1) fun v T'=>v=.str u∧T'=aq T (.list [.str [],.str [42]]):=by
  refine aH ok (l:=[(1936094326,_)]) (tF hG rfl) rfl fun Qz hQ=>?_
  refine aL (gz (bn (az (t:=false) (aN ok (tG hG rfl) (.inr ⟨_,rfl⟩) (ah rfl ae) (by first|exact dE|exact dA|exact dz (by (trivial)))) (dk ok (tG hG rfl)) (by first|exact bv|exact bN rfl|exact bX)) (bn (az (t:=false) (aj rfl) (cT (ai aQ (ai aQ ae)) (lb rfl)) (by exact cmt (tJ (.inr (ag _ _)) rfl) (by show (sq _ _ || (sq _ _ || false))=false; rw [oX h1,oX h2]; rfl))) cB))) ?_
  refine aK (aj rfl) ?_
  apply hQ
  exact ⟨rfl,rfl⟩
 refine zEEAL this fun _ h gR0=>?_
 subst gR0
 exact h
theorem qg {u:List Nat} {n tm tk:Int} (hn:1≤T.n):CaP c (aq T (.inst 162 [])) 152 [.ref T.n,.int n,.str u,.int tm,.int tk] (d+1) fun v T'=>v=.none∧T'.get T.n=some (Sn.ob ⟨n,T.n,u,tm⟩ tk)∧Upd T.n All T T'∧T'.n=T.n+1:=by
 refine aH ok (l:=[(1735222900,_),(126883592042095,_),(1936094326,_),(33062797402073717,_),(1818520181,_)]) (tF hG rfl) rfl fun Qz hQ=>?_
 refine be ok (aj rfl) rfl (by exact (ag _ _)) (by exact tA hG rfl) (by exact lb rfl) (by first|assumption|exact Nat.le_add_left 1 _|exact lb rfl) ?_
 refine be ok (aj rfl) rfl (by exact ac (ag _ _)) (by exact tA hG rfl) (by exact lb rfl) (by first|assumption|exact Nat.le_add_left 1 _|exact lb rfl) ?_
 refine be ok (aj rfl) rfl (by exact ac (ac (ag _ _))) (by exact tA hG rfl) (by exact lb rfl) (by first|assumption|exact Nat.le_add_left 1 _|exact lb rfl) ?_
 refine be ok (aj rfl) rfl (by exact ac (ac (ac (ag _ _)))) (by exact tA hG rfl) (by exact lb rfl) (by first|assumption|exact Nat.le_add_left 1 _|exact lb rfl) ?_
 apply ax
 apply hQ
 exact ⟨rfl,ac (ac (ac (ac (ag _ _)))),by (with_reducible repeat' first|assumption|exact Upd.refl|apply Upd.new|apply Upd.put|apply Upd.leA),rfl⟩
theorem p8 (hs:T.get s=some sf.ob) (ps:1≤s):Ca c 479 [.ref s] (d+1) T (.int (sf.cnt+1)) (aI T s (SF.ob { sf with cnt:=sf.cnt+1 })):=by
 have:CaP c T 479 [.ref s] (d+1) fun v T'=>v=.int (sf.cnt+1)∧T'=aI T s (SF.ob { sf with cnt:=sf.cnt+1 }):=by
  refine aH ok (l:=[(1735222900,_)]) (tF hG rfl) rfl fun Qz hQ=>?_
  refine be ok (bB (aO ok rfl (by trivial) (by exact tA hG rfl) (by exact rfl)) aD (cE)) rfl (by trivial) (by exact tA hG rfl) (by exact lb rfl) (by first|assumption|exact Nat.le_add_left 1 _|exact lb rfl) ?_
  refine aK (aO ok rfl (by exact ac ‹_›) (by exact tA hG rfl) (by exact rfl)) ?_
  apply hQ
  exact ⟨rfl,rfl⟩
 refine zEEAL this fun _ h gR0=>?_
 subst gR0
 exact h
theorem uc {u:List Nat} {ep:Nat} {ss:List Sn} {args:List AV} {tm:Int} (hb:binds bI.params args (bI.dfl.drop (args.length - (bI.params.length - bI.dfl.length))) (bI.params.length - bI.dfl.length)=some [(1735222900,.ref s),(1936094326,.str u),(33062797402073717,.int tm)]) (htm:1≤tm) (X:aM T s lr sp st sf rows es) (se:bu T sf.ses ep ss) (h1:u≠[]) (h2:u≠[42]) (hnew':sf.cnt+1∉ss.map Sn.num) (sz:ss.length<60) (w1:sf.wat≠sf.ses) (w2:sf.lea≠sf.ses) (pd:1≤sf.ses) (ne:es≠[]) (hn:1≤T.n) :
  CaP c T 487 args (d+3) fun v T'=>v=.int (sf.cnt+1)∧∃ x:Sn,x.num=sf.cnt+1∧x.u=u∧T.n≤x.r∧aM T' s lr sp st { sf with cnt:=sf.cnt+1 } rows es∧bu T' sf.ses (ep+1) (ss ++ [x])∧Upd T.n (fun r _=>r≠s∧r≠sf.ses) T T':=by
 have hs:=X.hs
 refine zEEALAA (qg ok hG (d:=d) (T:=aq T (.list [.str [],.str [42]])) (u:=u) (n:=sf.cnt+1) (tm:=tm) (tk:=sf.tick) (Nat.le_succ_of_le hn)) fun T2 h3 g2 u2 n2=>?_
 have u02:Upd T.n All T T2:=Upd.refl.new.then u2 (Nat.le_succ _)
 have hs2:=u02.get trivial hs
 have hd2:=u02.get trivial se.hd
 have hd3:(aI T2 s (SF.ob { sf with cnt:=sf.cnt+1 })).get sf.ses=some (.dict (ss.map Sn.dc) ep):=an hs2 hd2 rfl
 have g3:(aI T2 s (SF.ob { sf with cnt:=sf.cnt+1 })).get (aq T (.list [.str [],.str [42]])).n=some (Sn.ob ⟨sf.cnt+1,(aq T (.list [.str [],.str [42]])).n,u,tm⟩ sf.tick):=an hs2 g2 rfl
 refine aH ok (tF hG rfl) hb fun Q hQ=>?_
 refine aR (kj ok (tG hG rfl) (tC hG rfl) rfl (ai (bB (aO ok rfl (by trivial) (by exact tA hG rfl) (by exact rfl)) aD (cE)) (ai (aS ok (tG hG rfl) (tF hG rfl) (ah rfl ae) (uN ok hG h1 h2)) (ai (aS ok (tG hG rfl) (tF hG rfl) (ah rfl ae) (lJ ok hG htm)) (ai (aO ok rfl (by exact af ‹_›) (by exact tA hG rfl) (by exact rfl)) ae)))) (h3)) ?_
 apply am
 apply rX
 refine aE rfl ?_
 apply cx ok
 exact rfl
 ·trivial
 exact tA hG rfl
 exact rfl
 apply cD ok
 exact rfl
 ·trivial
 exact tM hG rfl
 exact rfl
 apply au
 refine bK (p8 ok hG hs2 X.ps) ?_
 apply wg
 exact hd3
 exact bO
 rw [LQ]; exact lt4 (Nat.le_of_lt sz) rfl
 exact pd
 refine aK (aO ok rfl (by exact an ‹_› ‹_› rfl) (by exact tA hG rfl) (by exact rfl)) ?_
 apply hQ
 have uf:Upd T.n (fun r _=>r≠s∧r≠sf.ses) T (aI (aI T2 s (SF.ob { sf with cnt:=sf.cnt+1 })) sf.ses (.dict (dpt (.int (sf.cnt+1)) (.ref (aq T (.list [.str [],.str [42]])).n) (ss.map Sn.dc)) (epS (.int (sf.cnt+1)) (ss.map Sn.dc) ep))):=(u02.a.set (fun _ k=>k.1 rfl) hs).set (fun _ k=>k.2 rfl) se.hd
 have kt:∀ y vs,T.get y=some (.tuple vs)→y≠s∧y≠sf.ses:=fun y vs g=>⟨aJ hs g rfl,aJ se.hd g rfl⟩
 have gk:∀ {r:Nat} {a:AO},T.get r=some a→Nat.beq (kd sf.ob) (kd a)=false→Nat.beq 0 (kd a)=false→_:=fun {r a} g q1 q2=>uf.get ⟨aJ hs g q1,aJ se.hd g q2⟩ g
 refine ⟨rfl,⟨sf.cnt+1,(aq T (.list [.str [],.str [42]])).n,u,tm⟩,rfl,rfl,Nat.le_succ _,⟨an hd3 (ac hs2) rfl,X.ps,gk X.hl rfl rfl,gk X.hr rfl rfl,X.pl,fun y m=>(X.rn y m).upd uf kt,gk X.hp rfl rfl,X.ts.keep2 (List.cons_ne_nil _ _) hs se.hd uf,X.tr.keep2 ne hs se.hd uf,uf.get ⟨aJ hs X.wat rfl,w1⟩ X.wat,uf.get ⟨aJ hs X.lea rfl,w2⟩ X.lea,X.rep,X.lst,X.pos⟩,⟨?_,fun y m=>?_,?_⟩,uf⟩
 ·rw [← uM (x:=⟨sf.cnt+1,(aq T (.list [.str [],.str [42]])).n,u,tm⟩) hnew']
  have e:epS (.int (sf.cnt+1)) (ss.map Sn.dc) ep=ep+1:=by unfold epS; rw [oU hnew']
  rw [e]; exact ac hd3
 ·rcases List.mem_append.mp m with m | m
  ·obtain ⟨q1,h,g⟩:=se.he y m
   exact ⟨q1,h,gk g rfl rfl⟩
  ·cases List.mem_singleton.mp m
   exact ⟨Nat.le_succ_of_le hn,sf.tick,an hd3 g3 rfl⟩
 ·rw [List.map_append,List.nodup_append]
  refine ⟨se.nd,nd1,fun a ha b hb=>?_⟩
  cases List.mem_singleton.mp hb
  exact fun q=>hnew' ((show a=sf.cnt+1 from q)▸ha)
end
noncomputable def K8 (s lr sd:Nat):Nat→AO→Prop:=fun r a=>r≠s∧r≠lr∧r≠sd∧Nat.beq (162+6) (kd a)=false
theorem Upd.weakG {n m:Nat} {P Q:Nat→AO→Prop} {T T1:Hp} (u:Upd n P T T1) (le:m≤n) (h:∀ r a,T.get r=some a→Q r a→P r a):Upd m Q T T1:=⟨u.1,fun r a q p g=>u.2 r a (Nat.lt_of_lt_of_le q le) (h r a g p) g⟩
structure L8 (T:Hp) (s lr sp st sd ep:Nat) (ss:List Sn) (es:Es) (m:Nat) (rev:Int):Prop where
 X:∃ sf rows,aM T s lr sp st sf rows es∧rows.length≤m∧sf.ses=sd∧sf.rev=rev
 se:bu T sd ep ss
 us:∀ x∈ss,x.u≠[42]
 ne:es≠[]
 pd:1≤sd
 pn:1≤T.n
theorem bu.touch {T:Hp} {sd ep:Nat} {ss:List Sn} {x:Sn} {hh h2:Int} (se:bu T sd ep ss) (gx:T.get x.r=some (x.ob hh)):bu (aI T x.r (x.ob h2)) sd ep ss:=by
 refine ⟨an gx se.hd rfl,fun y m=>⟨(se.he y m).1,?_⟩,se.nd⟩
 refine zE ((se.he y m).2) fun h g=>?_
 by_cases e:y.r=x.r
 ·refine ⟨h2,?_⟩
  have g2:=ac (o:=x.ob h2) gx
  rw [e] at g ⊢
  rw [gx] at g
  cases y; cases x
  cases g
  exact g2
 ·exact ⟨h,cb e g⟩
theorem aM.touch {T:Hp} {s lr sp st:Nat} {sf:SF} {rows:List Rn} {es:Es} {x:Sn} {hh h2:Int} (X:aM T s lr sp st sf rows es) (gx:T.get x.r=some (x.ob hh)):aM (aI T x.r (x.ob h2)) s lr sp st sf rows es:=by
 have u:Upd T.n (But x.r) T (aI T x.r (x.ob h2)):=Upd.refl.set (fun _ k=>k rfl) gx
 exact ⟨an gx X.hs rfl,X.ps,an gx X.hl rfl,an gx X.hr rfl,X.pl,fun y m=>(X.rn y m).upd u fun _ _ g=>aJ gx g rfl,an gx X.hp rfl,X.ts.off gx rfl rfl rfl,X.tr.off gx rfl rfl rfl,an gx X.wat rfl,an gx X.lea rfl,X.rep,X.lst,X.pos⟩
section
variable {T:Hp} {s lr sp st sd ep m:Nat} {ss:List Sn} {es:Es} {rev:Int}
theorem L8.new {T':Hp} (L:L8 T s lr sp st sd ep ss es m rev) (u:Upd T.n All T T'):L8 T' s lr sp st sd ep ss es m rev:=
 { L with X:=let ⟨sf,rows,X,q⟩:=L.X; ⟨sf,rows,X.new u,q⟩,se:=L.se.new u,pn:=Nat.le_trans L.pn u.1 }
theorem L8.touch {x:Sn} {hh h2:Int} (L:L8 T s lr sp st sd ep ss es m rev) (gx:T.get x.r=some (x.ob hh)):L8 (aI T x.r (x.ob h2)) s lr sp st sd ep ss es m rev∧Upd T.n (K8 s lr sd) T (aI T x.r (x.ob h2)):=
 ⟨{ L with X:=let ⟨sf,rows,X,q⟩:=L.X; ⟨sf,rows,X.touch gx,q⟩,se:=L.se.touch gx,pn:=L.pn },Upd.refl.set (fun _ k=>Bool.noConfusion k.2.2.2) gx⟩
end
section
variable {c:Cx} (ok:Ok c) (hG:c.G=G) {d s lr sp st sd ep m:Nat} {T:Hp} {ss:List Sn} {es:Es} {rev:Int} {x:Sn}
include ok hG
theorem p9 {p:List Nat} {b:Bool} (L:L8 T s lr sp st sd ep ss es m rev) (mx:x∈ss) (hp:OkP p) (rc:Rch es p) (hb:(b=true∧∃ e,(p,e)∈es)∨(b=false∧p∉es.map (·.1))):CaP c T 601 [.ref s,.int x.num,.str p] (d+7) fun v T'=>v=.bool b∧L8 T' s lr sp st sd ep ss es m rev∧Upd T.n (K8 s lr sd) T T':=by
 refine gp fun gP gH=>?_
 refine zEEAAA (id L.X) fun sf rows X _ e _=>?_
 subst e
 refine zAE (L.se.he x mx) fun px hh gx=>?_
 refine zA (L.touch (h2:=sf.tick) gx) fun L1 u1=>?_
 have h1:=dT ok hG (d:=d+5) X.hs L.se.hd mx L.se.nd gx px
 refine zEEA L1.X fun sf1 rows1 X1 q1=>?_
 have X1:=X.touch (h2:=sf.tick) gx
 have g1:=ac (o:=x.ob sf.tick) gx
 have hs0:=X.hs
 have hs1:=X1.hs
 refine zEEAL (dZ ok hG (d:=d+5) (T:=aI T x.r (x.ob sf.tick)) hp) fun T2 h2 u2=>?_
 have hs2:=u2.get trivial hs1
 refine zEEAL (cK ok hG (d:=d) (x:=114) (X1.tr.all u2) rc (L.us x mx) rfl) fun T3 h3 u3=>?_
 apply gH;clear gH
 have u13:=u2.then u3 u2.1
 have hs3:=u13.get trivial hs1
 have h4:Ca c 238 [.ref sf.tree,.str p] (d+6) T3 (.bool b) T3:=by
  rcases hb with ⟨rfl,e,me⟩ | ⟨rfl,np⟩
  ·exact iC ok hG (X1.tr.all u13) me
  ·exact nF ok hG (X1.tr.all u13) np
 refine zEEEA (X1.tr.all u13) fun dr ep9 xs t3 hx=>?_
 have ht3:=t3.ht
 refine aH ok (l:=[(1735222900,_),(126883592042095,_),(1769300593,_)]) (tF hG rfl) rfl fun Qz hQ=>?_
 refine aR (fC ok (bp ok rfl (by trivial) (by exact tM hG rfl) (by exact rfl) (ah rfl ae) (h1)) (by trivial) (by exact tA hG rfl) (by exact rfl)) ?_
 refine aV (aS ok (tG hG rfl) (tF hG rfl) (ai (aO ok rfl (by trivial) (by exact tA hG rfl) (by exact rfl)) (ai (aS ok (tG hG rfl) (tF hG rfl) (ah rfl ae) (h2)) (ah rfl (ai aQ ae)))) (h3)) ?_
 refine aK (dN ok (aO ok rfl (by trivial) (by exact tA hG rfl) (by exact rfl)) (by trivial) (by exact tM hG rfl) (by exact rfl) (ah rfl ae) (h4)) ?_
 apply hQ
 exact ⟨rfl,L1.new u13,u1.then u13.a u1.1⟩
theorem pS {p:List Nat} {e:En} {m9:List (List Nat)} (L:L8 T s lr sp st sd ep ss es m rev) (mx:x∈ss) (hp:OkP p) (rc:Rch es p) (me:(p,e)∈es) (hok:∀ q∈es,OkP q.1) (pm:m9.Perm (dM p (es.map (·.1)))) (so:Srt slt m9):CaP c T 608 [.ref s,.int x.num,.str p] (d+7) fun v T'=>∃ r,v=.ref r∧T'.get r=some (.list (m9.map .str))∧L8 T' s lr sp st sd ep ss es m rev∧Upd T.n (K8 s lr sd) T T':=by
 refine gp fun gP gH=>?_
 refine zEEAAA (id L.X) fun sf rows X _ e _=>?_
 subst e
 refine zAE (L.se.he x mx) fun px hh gx=>?_
 refine zA (L.touch (h2:=sf.tick) gx) fun L1 u1=>?_
 have h1:=dT ok hG (d:=d+5) X.hs L.se.hd mx L.se.nd gx px
 have X1:=X.touch (h2:=sf.tick) gx
 have g1:=ac (o:=x.ob sf.tick) gx
 have hs0:=X.hs
 have hs1:=X1.hs
 refine zEEAL (dZ ok hG (d:=d+5) (T:=aI T x.r (x.ob sf.tick)) hp) fun T2 h2 u2=>?_
 have hs2:=u2.get trivial hs1
 refine zEEAL (cK ok hG (d:=d) (x:=114) (X1.tr.all u2) rc (L.us x mx) rfl) fun T3 h3 u3=>?_
 have u13:=u2.then u3 u2.1
 have hs3:=u13.get trivial hs1
 refine zEEAELA (hR ok hG (d:=d+3) (X1.tr.all u13) me (Nat.le_trans L.pn u13.1) hok pm so) fun T4 r4 h4 g4 u4=>?_
 have u14:=u13.then u4 u13.1
 refine zEEEA (X1.tr.all u13) fun dr ep9 xs t3 hx=>?_
 apply gH;clear gH
 have ht3:=t3.ht
 refine aH ok (l:=[(1735222900,_),(126883592042095,_),(1769300593,_)]) (tF hG rfl) rfl fun Qz hQ=>?_
 refine aR (fC ok (bp ok rfl (by trivial) (by exact tM hG rfl) (by exact rfl) (ah rfl ae) (h1)) (by trivial) (by exact tA hG rfl) (by exact rfl)) ?_
 refine aV (aS ok (tG hG rfl) (tF hG rfl) (ai (aO ok rfl (by trivial) (by exact tA hG rfl) (by exact rfl)) (ai (aS ok (tG hG rfl) (tF hG rfl) (ah rfl ae) (h2)) (ah rfl (ai aQ ae)))) (h3)) ?_
 refine aK (dN ok (aO ok rfl (by trivial) (by exact tA hG rfl) (by exact rfl)) (by trivial) (by exact tM hG rfl) (by exact rfl) (ah rfl ae) (h4)) ?_
 apply hQ
 exact ⟨_,rfl,g4,L1.new u14,u1.then u14.a u1.1⟩
end
theorem KS.to8 {T T':Hp} {s lr sd:Nat} {x:Sn} {hh:Int} (gx:T.get x.r=some (x.ob hh)) (u:Upd T.n (KS s lr x.r) T T'):Upd T.n (K8 s lr sd) T T':=u.weakG (Nat.le_refl _) fun r a g p=>⟨p.1,p.2.1,aJ gx g p.2.2.2⟩
section
variable {c:Cx} (ok:Ok c) (hG:c.G=G) {d s lr sp st sd ep m:Nat} {T:Hp} {ss:List Sn} {es:Es} {rev:Int} {x:Sn}
include ok hG
theorem s8 {p:List Nat} (L:L8 T s lr sp st sd ep ss es m rev) (hm:m<40) (mx:x∈ss) (hp:OkP p) (ne:p≠[47]) (rc:Rch es (bZ p)) (h:okC es (crC p [] false x.num)):CaP c T 616 [.ref s,.int x.num,.str p] (d+12) fun v T'=>v=.str p∧L8 T' s lr sp st sd ep ss (cv (rev+1) es (crC p [] false x.num)) (m+1) (rev+1)∧Upd T.n (K8 s lr sd) T T':=by
 refine zEEAAA (id L.X) fun sf rows X hr e er=>?_
 subst e; subst er
 refine zAE (L.se.he x mx) fun px hh gx=>?_
 refine zEEAAEE (pY ok hG (d:=d) X (Nat.lt_of_le_of_lt hr (Nat.lt_trans hm (lb rfl))) L.se mx hp ne rc (L.us x mx) h L.pn) fun v T1 h1 gR0 sf' row gC0=>?_
 refine zAAAA gC0 fun r1 r2 r3 r6 r7=>?_
 subst gR0
 exact ⟨_,T1,h1,rfl,⟨⟨sf',_,r1,by rw [List.length_append]; exact Nat.succ_le_succ hr,r2,r3⟩,r6,L.us,(fun e=>by have:=congrArg List.length e; rw [show cv _ _ _=upE _ _ _ ++ [_] from rfl,List.length_append] at this; cases this),L.pd,Nat.le_trans L.pn r7.1⟩,KS.to8 gx r7⟩
theorem pN {sl:Nat} {xs:List Sp} (hrev:∀ sf:SF,sf.rev=rev→ku c (d+8) s x.num x.u sf es xs) (L:L8 T s lr sp st sd ep ss es m rev) (hm:m<40) (mx:x∈ss) (hx:∀ y∈xs,gd T y) (hsl:T.get sl=some (.list (xs.map Sp.rf))) (l20:xs.length<20) (l0:0<xs.length) (ne:∀ crs:List (Nat × Ch),crs.map (·.2)=xs.map Sp.ch→chE (rev+1) es crs≠[]):CaP c T 653 [.ref s,.int x.num,.ref sl] (d+10) fun v T'=>∃ crs:List (Nat × Ch),crs.map (·.2)=xs.map Sp.ch∧L8 T' s lr sp st sd ep ss (chE (rev+1) es crs) (m+1) (rev+1)∧Upd T.n (K8 s lr sd) T T':=by
 refine gp fun gP gH=>?_
 refine zEEAAA (id L.X) fun sf rows X hr e er=>?_
 subst e
 refine zAE (L.se.he x mx) fun px hh gx=>?_
 have hk:=hrev sf er
 subst er
 refine zEEAEEE (m8 ok hG (d:=d) X (Nat.lt_of_le_of_lt hr (Nat.lt_trans hm (lb rfl))) L.se mx hk hx hsl l20 l0 L.pn) fun v T1 h1 sf' row crs gC0=>?_
 refine zAAAAA gC0 fun r0 r1 r2 r3 r6 r7=>?_
 apply gH;clear gH
 exact ⟨_,T1,h1,crs,r0,⟨⟨sf',_,r1,by rw [List.length_append]; exact Nat.succ_le_succ hr,r2,r3⟩,r6,L.us,ne crs r0,L.pd,Nat.le_trans L.pn r7.1⟩,KS.to8 gx r7⟩
theorem iA {p q:List Nat} (ne:p≠[47]) (hp:OkP (p ++ [47] ++ q)) (h1:p.length≤200) (h2:q.length≤200):CaP c T 124 [.str p,.str q] (d+2) fun u T'=>u=.str (p ++ [47] ++ q)∧Upd T.n All T T':=by
 refine zEEAL (dZ ok hG (d:=d) (T:=T) hp) fun T1 hn u1=>?_
 refine aH ok (l:=[(1769300593,_),(1718510191,_)]) (tF hG rfl) rfl fun Qz hQ=>?_
 refine aL (az (t:=false) (aj rfl) aQ (by exact bf (d8 ne))) ?_
 refine aK (aS ok (tG hG rfl) (tF hG rfl) (ai (bB (bB (aj rfl) aQ (fO (lt4 (Nat.add_le_add_right h1 1) rfl))) (aj rfl) (fO (by rw [List.length_append]; exact lt4 (Nat.add_le_add (Nat.add_le_add_right h1 1) h2) rfl))) ae) (hn)) ?_
 apply hQ
 exact ⟨rfl,u1⟩
theorem qp:Ca c 745 [.ref s,.int x.num,.str [47]] (d+1) T (.str [47]) T:=by
 have:CaP c T 745 [.ref s,.int x.num,.str [47]] (d+1) fun u T'=>u=.str [47]∧T'=T:=by
  refine cA ok (l:=[(440023414132,_),(126883592042095,_),(1769300593,_)]) (tF hG rfl) rfl fun lz hz Qz hQ=>?_
  have hz0:=hz 440023414132 _ rfl
  have hz1:=hz 126883592042095 _ rfl
  have hz2:=hz 1769300593 _ rfl
  clear hz
  refine aL (bQ (aZ (az (t:=false) (aj (by trivial)) aQ (iu (t:=true) rfl)))) ?_
  refine aK (aj (by trivial)) ?_
  apply hQ
  exact ⟨rfl,rfl⟩
 refine zEEAL this fun _ h gR0=>?_
 subst gR0
 exact h
theorem sR {p:List Nat} {e:En} (L:L8 T s lr sp st sd ep ss es m rev) (mx:x∈ss) (hp:OkP p) (ne:p≠[47]) (rc:Rch es p) (me:(p,e)∈es):CaP c T 745 [.ref s,.int x.num,.str p] (d+8) fun v T'=>v=.str p∧L8 T' s lr sp st sd ep ss es m rev∧Upd T.n (K8 s lr sd) T T':=by
 refine zEEALA (p9 ok hG (d:=d) (b:=true) L mx hp rc (.inl ⟨rfl,e,me⟩)) fun T1 h1 L1 u1=>?_
 refine zEEAAA (id L.X) fun sf rows X hr e er=>?_
 have hs:=X.hs
 refine cA ok (l:=[(440023414132,_),(126883592042095,_),(1769300593,_)]) (tF hG rfl) rfl fun lz hz Qz hQ=>?_
 have hz0:=hz 440023414132 _ rfl
 have hz1:=hz 126883592042095 _ rfl
 have hz2:=hz 1769300593 _ rfl
 clear hz
 refine aL (bQ (bn (az (t:=true) (aj (by trivial)) aQ (by exact iu (t:=false) (d8 ne))) (aZ (fU (t:=true) (bj (t:=true) rfl (bp ok (by trivial) (by trivial) (by exact tM hG rfl) (by exact rfl) (ah (by trivial) (ah (by trivial) ae)) (h1))))))) ?_
 refine aK (aj (by trivial)) ?_
 apply hQ
 exact ⟨rfl,L1,u1⟩
theorem pu {p:List Nat} {es1:Es} {m1:Nat} {rev1:Int} {e0:En} {v0:AV} (L:L8 T s lr sp st sd ep ss es m rev) (mx:x∈ss) (hp:OkP p) (ne:p≠[47]) (rc:Rch es p) (np:p∉es.map (·.1)) (hpar:∀ T1,L8 T1 s lr sp st sd ep ss es m rev→CaP c T1 745 [.ref s,.int x.num,.str (bZ p)] (d+12) fun v T'=>v=v0∧L8 T' s lr sp st sd ep ss es1 m1 rev1∧Upd T1.n (K8 s lr sd) T1 T') (hm:m1<40) (rc1:Rch es1 (bZ p)) (h:okC es1 (crC p [] false x.num)):CaP c T 745 [.ref s,.int x.num,.str p] (d+13) fun v T'=>v=.str p∧L8 T' s lr sp st sd ep ss (cv (rev1+1) es1 (crC p [] false x.num)) (m1+1) (rev1+1)∧Upd T.n (K8 s lr sd) T T':=by
 refine gp fun gP gH=>?_
 refine zEEALA (p9 ok hG (d:=d+5) (b:=false) L mx hp rc (.inr ⟨rfl,np⟩)) fun T1 h1 L1 u1=>?_
 refine zEEAL (de ok hG (d:=d+10) (T:=T1) hp ne) fun T2 h2 u2=>?_
 refine zEEALA (hpar T2 (L1.new u2)) fun T3 h3 L3 u3=>?_
 refine zEEALA (s8 ok hG (d:=d) (p:=p) L3 hm mx hp ne rc1 h) fun T4 h4 L4 u4=>?_
 refine zEEA L.X fun sf rows X _=>?_
 have hs:=X.hs
 refine zEEA L3.X fun sf3 rows3 X3 _=>?_
 apply gH;clear gH
 have hs3:=X3.hs
 refine cA ok (l:=[(440023414132,_),(126883592042095,_),(1769300593,_)]) (tF hG rfl) rfl fun lz hz Qz hQ=>?_
 have hz0:=hz 440023414132 _ rfl
 have hz1:=hz 126883592042095 _ rfl
 have hz2:=hz 1769300593 _ rfl
 clear hz
 refine bF (bQ (bn (az (t:=true) (aj (by trivial)) aQ (by exact iu (t:=false) (d8 ne))) (bn (fU (t:=false) (bj (t:=false) rfl (bp ok (by trivial) (by trivial) (by exact tM hG rfl) (by exact rfl) (ah (by trivial) (ah (by trivial) ae)) (h1)))) cB))) ?_
 refine aV (aS ok (tG hG rfl) (tF hG rfl) (ah (by trivial) (ah (by trivial) (ai (aS ok (tG hG rfl) (tF hG rfl) (ah (by trivial) ae) (h2)) ae))) (h3)) ?_
 refine aV (bp ok (by trivial) (by trivial) (by exact tM hG rfl) (by exact rfl) (ah (by trivial) (ah (by trivial) ae)) (h4)) ?_
 apply ax
 refine aK (aj (by trivial)) ?_
 apply hQ
 exact ⟨rfl,L4,((u1.then u2.a u1.1).then u3 (Nat.le_trans u1.1 u2.1)).then u4 (Nat.le_trans u1.1 (Nat.le_trans u2.1 u3.1))⟩
end
noncomputable abbrev pB:List Nat:=[47,98,97,114,115]
noncomputable abbrev pO:List Nat:=[47,98,97,114,115,47,111,110,101]
noncomputable abbrev sIn:List Nat:=[105,110,45]
noncomputable def nmI (i:Nat):List Nat:=match i with | 0=>[105,110,45,50] | 1=>[105,110,45,51] | 2=>[105,110,45,52] | _=>[111,112,101,110]
noncomputable def pth (i:Nat):List Nat:=pO ++ [47] ++ nmI i
theorem bh:∀ i:Fin 4,okP (pth i)=true∧pth i≠[47]∧bZ (pth i)=pO∧hH (pth i)=nmI i∧pth i≠pO∧pth i≠pB∧(nmI i).length≤4∧sIn.isPrefixOf (nmI i)=Nat.blt i 3:=by decide +kernel
theorem sT:∀ i j:Fin 4,(pth i=pth j→i.val=j.val)∧(i.val<j.val→slt (nmI j) (nmI i)=false)∧(slt (nmI j) (nmI i)=false→i.val≤j.val)∧(nmI i=nmI j→i.val=j.val):=by decide +kernel
theorem kI:∀ i:Fin 3,sIn ++ bL (i.val+2)=nmI i:=by decide +kernel
theorem ay:okP pO=true∧okP pB=true∧bZ pO=pB∧bZ pB=[47]∧pO≠[47]∧pB≠[47]∧pO≠pB∧okP [47]=true:=by decide +kernel
structure Pl where
 sp:Nat
 ma:Int
noncomputable def gr (i:Nat):AV:=cond (Nat.blt i 3) (.int ((i:Int)+2)) .none
noncomputable abbrev Pl.e (t:Pl):En:=⟨.str [],0,0,gr t.sp,.none,.none,0,t.ma,t.ma⟩
noncomputable abbrev Pl.pe (t:Pl):List Nat × En:=(pth t.sp,t.e)
structure Q8 (q:List Pl):Prop where
 lt:∀ t∈q,t.sp<4
 nd:(q.map Pl.sp).Nodup
noncomputable abbrev PlE (e:En):Prop:=e.own=.none∧e.lea=.none
noncomputable def Bs (es:Es) (q:List Pl):Prop:=∃ e0 e1 e2,es=([47],e0) :: (pB,e1) :: (pO,e2) :: q.map Pl.pe∧e0.rig=.obj 182∧e1.rig=.none∧e2.rig=.none∧PlE e0∧PlE e1∧PlE e2
noncomputable def WS (es:Es) (q:List Pl):Prop:=(es=cS∧q=[])∨Bs es q
theorem ol {l:List Nat} (h:l.Pairwise (·<·)) (n:Nat):∀ k,(∀ x∈l,k≤x∧x<n)→k≤n→l.length≤n - k:=by
 induction l with
 | nil=>intro k _ _; exact Nat.zero_le _
 | cons a l ih=>
  intro k hk hn
  have h:=List.pairwise_cons.mp h
  have ha:=hk a (.head _)
  have:=ih h.2 (a+1) (fun x m=>⟨h.1 x m,(hk x (.tail _ m)).2⟩) ha.2
  have t:=Nat.succ_le_succ this
  rw [Nat.succ_eq_add_one,Nat.succ_eq_add_one,← Nat.sub_add_comm (show a+1≤n from ha.2),Nat.add_sub_add_right] at t
  exact Nat.le_trans t (Nat.sub_le_sub_left ha.1 n)
theorem vV (a b:List Nat):slt b a=false∨slt a b=false:=by
 unfold slt
 by_cases h:b<a
 ·exact .inr (decide_eq_false (List.lt_asymm h))
 ·exact .inl (decide_eq_false h)
theorem mB {α:Type} (key:α→List Nat) (x:α):∀ m:List α,Srt slt (m.map key)→∃ m':List α,m'.Perm (x :: m)∧Srt slt (m'.map key)
 | [],_=>⟨[x],.refl _,List.pairwise_cons.mpr ⟨fun _ h=>(by cases h),.nil⟩⟩
 | y :: m,h=>by
  have h:=List.pairwise_cons.mp h
  rcases vV (key x) (key y) with q | q
  ·refine ⟨x :: y :: m,.refl _,List.pairwise_cons.mpr ⟨fun z mz=>?_,List.pairwise_cons.mpr h⟩⟩
   cases mz with
   | head=>exact q
   | tail _ mz=>exact wQ.tr q (h.1 z mz)
  ·obtain ⟨m',p,s⟩:=mB key x m h.2
   refine ⟨y :: m',(p.cons y).trans (.swap _ _ _),List.pairwise_cons.mpr ⟨fun z mz=>?_,s⟩⟩
   refine zEA (List.mem_map.mp mz) fun w mw gR0=>?_
   subst gR0
   cases p.subset mw with
   | head=>exact q
   | tail _ mw=>exact h.1 _ (List.mem_map_of_mem mw)
theorem iB {α:Type} (key:α→List Nat):∀ l:List α,∃ m:List α,m.Perm l∧Srt slt (m.map key)
 | []=>⟨[],.refl _,.nil⟩
 | x :: l=>by
  refine zEA (iB key l) fun m p s=>?_
  refine zEA (mB key x m s) fun m' p' s'=>?_
  exact ⟨m',p'.trans (p.cons x),s'⟩
theorem oG {l:List Nat} (lt:∀ i∈l,i<4) (nd:l.Nodup):∃ m:List Nat,m.Perm l∧Srt slt (m.map nmI)∧m.Pairwise (·<·):=by
 refine zEA (iB nmI l) fun m p s=>?_
 refine ⟨m,p,s,?_⟩
 have nd':=p.nodup_iff.mpr nd
 have lt':∀ i∈m,i<4:=fun i h=>lt i (p.subset h)
 have s':=List.pairwise_map.mp s
 refine (s'.and nd').imp_of_mem fun {a b} ma mb h=>?_
 exact Nat.lt_of_le_of_ne ((sT ⟨a,lt' a ma⟩ ⟨b,lt' b mb⟩).2.2.1 h.1) h.2
theorem okL:∀ {l:List Nat},l.Pairwise (·<·)→(∀ i∈l,i<3)→∀ {pr r:List Nat} {i:Nat},l=pr ++ i :: r→okAdd (pr.map (·+2)) (i+2)=true:=by
 intro l h lt pr r i e
 subst e
 have l3:=ol h 3 0 (fun x m=>⟨Nat.zero_le _,lt x m⟩) (Nat.zero_le _)
 rw [List.length_append] at l3
 have hi:=lt i (List.mem_append_right _ (.head _))
 cases pr with
 | nil=>exact (by decide:∀ i,i<3→okAdd [] (i+2)=true) i hi
 | cons a pr=>
  have h:=List.pairwise_cons.mp h
  cases pr with
  | nil=>exact (by decide:∀ i,i<3→∀ a,a<i→okAdd [a+2] (i+2)=true) i hi a (h.1 i (.head _))
  | cons b pr=>
   have h':=List.pairwise_cons.mp h.2
   cases pr with
   | nil=>exact (by decide:∀ i,i<3→∀ b,b<i→∀ a,a<b→okAdd [a+2,b+2] (i+2)=true) i hi b (h'.1 i (.head _)) a (h.1 b (.head _))
   | cons c pr=>exact (Nat.not_succ_le_zero _ (Nat.le_of_succ_le_succ (Nat.le_of_succ_le_succ (Nat.le_trans (Nat.le_add_right _ _) (Nat.le_of_succ_le_succ (show pr.length+1+1+1+r.length+1≤3 from l3)))))).elim
noncomputable def rmN (i:Nat) (q:List Pl):List Pl:=q.filter fun t=>!decide (t.sp=i)
section
variable {es:Es} {q:List Pl} {r:Int} {i:Nat} {t:Pl}
theorem Q8.len (Q:Q8 q):q.length≤4:=by
 obtain ⟨m,p,_,rise⟩:=oG (l:=q.map Pl.sp) (fun i h=>by obtain ⟨t,mt,rfl⟩:=List.mem_map.mp h; exact Q.lt t mt) Q.nd
 have:=ol rise 4 0 (fun x mx=>⟨Nat.zero_le _,by obtain ⟨t,mt,rfl⟩:=List.mem_map.mp (p.subset mx); exact Q.lt t mt⟩) (Nat.zero_le _)
 rw [p.length_eq,LQ] at this
 exact this
theorem Bs.ok (B:Bs es q) (Q:Q8 q):∀ r∈es,OkP r.1:=by
 refine zEEEA B fun e0 e1 e2 gR0 _=>?_
 subst gR0
 intro r m
 cases m with
 | head=>exact aW ay.2.2.2.2.2.2.2
 | tail _ m=>cases m with
  | head=>exact aW ay.2.1
  | tail _ m=>cases m with
   | head=>exact aW ay.1
   | tail _ m=>
    refine zEA (List.mem_map.mp m) fun t mt gR0=>?_
    subst gR0
    exact aW (bh ⟨t.sp,Q.lt t mt⟩).1
theorem Bs.rO (B:Bs es q):Rch es pO:=by
 refine zEEEAAA B fun e0 e1 e2 gR0 h0 h1 gC0=>?_
 refine zA gC0 fun h2 _=>?_
 subst gR0
 refine .up (aW ay.1) ay.2.2.2.2.1 (.inr ⟨e2,.tail _ (.tail _ (.head _)),h2⟩) ?_
 rw [ay.2.2.1]
 refine .up (aW ay.2.1) ay.2.2.2.2.2.1 (.inr ⟨e1,.tail _ (.head _),h1⟩) ?_
 rw [ay.2.2.2.1]
 exact .here (.head _) h0
theorem Bs.mO (B:Bs es q):∃ e,(pO,e)∈es∧PlE e:=by
 refine zEEEAAA B fun e0 e1 e2 gR0 h0 h1 gC0=>?_
 refine zAAA gC0 fun h2 h3 h4 h5=>?_
 subst gR0
 exact ⟨e2,.tail _ (.tail _ (.head _)),h5⟩
theorem Bs.mem (B:Bs es q) (m:t∈q):(pth t.sp,t.e)∈es:=by
 refine zEEEA B fun e0 e1 e2 gR0 _=>?_
 subst gR0
 exact .tail _ (.tail _ (.tail _ (List.mem_map_of_mem (f:=Pl.pe) m)))
theorem Bs.ne (B:Bs es q):es≠[]:=by
 refine zEEEA B fun e0 e1 e2 gR0 _=>?_
 subst gR0
 exact List.cons_ne_nil _ _
theorem Bs.kids (B:Bs es q) (Q:Q8 q):dM pO (es.map (·.1))=(q.map Pl.sp).map nmI:=by
 refine zEEEA B fun e0 e1 e2 gR0 _=>?_
 subst gR0
 have h0:kid pO [47]=false:=rfl
 have h1:kid pO pB=false:=by decide +kernel
 have h2:kid pO pO=false:=by decide +kernel
 show ((([47] :: pB :: pO :: (q.map Pl.pe).map (·.1))).filter (kid pO)).map hH=_
 rw [List.filter_cons_of_neg (by rw [h0]; exact Bool.false_ne_true),List.filter_cons_of_neg (by rw [h1]; exact Bool.false_ne_true),List.filter_cons_of_neg (by rw [h2]; exact Bool.false_ne_true),List.filter_eq_self.mpr,List.map_map,List.map_map,List.map_map]
 ·exact List.map_congr_left fun t m=>(bh ⟨t.sp,Q.lt t m⟩).2.2.2.1
 ·intro p mp
  rw [List.map_map] at mp
  refine zEA (List.mem_map.mp mp) fun t mt gR0=>?_
  subst gR0
  refine zAAA (bh ⟨t.sp,Q.lt t mt⟩) fun _ f1 f2 _=>?_
  show (!decide (pth t.sp=[47]) && decide (bZ (pth t.sp)=pO))=true
  rw [decide_eq_false f1,decide_eq_true f2]; rfl
theorem Bs.no (B:Bs es q) (Q:Q8 q) (hi:i<4) (h:i∉q.map Pl.sp):pth i∉es.map (·.1):=by
 refine zEEEA B fun e0 e1 e2 gR0 _=>?_
 subst gR0
 refine zAAAAAA (bh ⟨i,hi⟩) fun f1 f2 f3 f4 f5 f6 _=>?_
 intro m
 rcases List.mem_cons.mp m with e | m
 ·exact f2 e
 rcases List.mem_cons.mp m with e | m
 ·exact f6 e
 rcases List.mem_cons.mp m with e | m
 ·exact f5 e
 rw [List.map_map] at m
 refine zEA (List.mem_map.mp m) fun t mt e=>?_
 have e2:t.sp=i:=(sT ⟨t.sp,Q.lt t mt⟩ ⟨i,hi⟩).1 e
 exact h (e2▸List.mem_map_of_mem mt)
theorem Bs.rP (B:Bs es q) (Q:Q8 q) (hi:i<4):Rch es (pth i):=by
 refine zAAA (bh ⟨i,hi⟩) fun f1 f2 f3 _=>?_
 refine .up (aW f1) f2 ?_ (by rw [f3]; exact B.rO)
 by_cases h:i∈q.map Pl.sp
 ·obtain ⟨t,mt,rfl⟩:=List.mem_map.mp h
  exact .inr ⟨t.e,B.mem mt,rfl⟩
 ·exact .inl (B.no Q hi h)
theorem xS {p:List Nat} {f:En→En} {a:Es} (h:∀ x∈a,x.1≠p):upE p f a=a:=by
 unfold upE
 exact (List.map_congr_left fun x m=>if_neg (h x m)).trans (List.map_id _)
theorem pj {e0 e1 e2:En} {f:En→En} (lt:∀ t∈q,t.sp<4):upE pO f (([47],e0) :: (pB,e1) :: (pO,e2) :: q.map Pl.pe)=([47],e0) :: (pB,e1) :: (pO,f e2) :: q.map Pl.pe:=by
 have h:upE pO f (q.map Pl.pe)=q.map Pl.pe:=xS fun x m=>by
  refine zEA (List.mem_map.mp m) fun t mt gR0=>?_
  subst gR0
  exact (bh ⟨t.sp,lt t mt⟩).2.2.2.2.1
 show (if [47]=pO then _ else _) :: (if pB=pO then _ else _) :: (if pO=pO then _ else _) :: upE pO f (q.map Pl.pe)=_
 rw [h,if_neg fun e=>ay.2.2.2.2.1 e.symm,if_neg fun e=>ay.2.2.2.2.2.2.1 e.symm,if_pos rfl]
theorem Bs.add {van:Bool} {nb:Int} (B:Bs es q) (Q:Q8 q) (hi:i<4) (hv:cond van (.int nb) .none=gr i):Bs (cv r es (crC (pth i) [] van nb)) (q ++ [⟨i,r⟩]):=by
 refine zEEEAAA B fun e0 e1 e2 gR0 h0 h1 gC0=>?_
 refine zAAA gC0 fun h2 h3 h4 h5=>?_
 subst gR0
 refine ⟨e0,e1,fX false e2,?_,h0,h1,h2,h3,h4,h5⟩
 show upE (bZ (pth i)) (fX false) _ ++ [_]=_
 rw [(bh ⟨i,hi⟩).2.2.1,pj Q.lt,List.map_append,hv]; rfl
theorem Q8.add (Q:Q8 q) (hi:i<4) (n:i∉q.map Pl.sp):Q8 (q ++ [⟨i,r⟩]):=by
 refine ⟨fun t m=>?_,?_⟩
 ·rcases List.mem_append.mp m with m | m
  ·exact Q.lt t m
  ·cases List.mem_singleton.mp m; exact hi
 ·rw [List.map_append,List.nodup_append]
  refine ⟨Q.nd,nd1,fun a ha b hb=>?_⟩
  cases List.mem_singleton.mp hb
  exact fun e=>n ((show a=i from e)▸ha)
theorem Bs.okAdd {van:Bool} {nb:Int} (B:Bs es q) (Q:Q8 q) (hi:i<4) (n:i∉q.map Pl.sp):okC es (crC (pth i) [] van nb):=by
 refine zAAA (bh ⟨i,hi⟩) fun f1 f2 f3 _=>?_
 refine zEA B.mO fun e m h=>?_
 refine ⟨aW f1,f2,B.no Q hi n,?_,e,by rw [f3]; exact m,h.1,h.2,rfl⟩
 refine zEEEA B fun e0 e1 e2 gR0 _=>?_
 subst gR0
 show (q.map Pl.pe).length+3<59
 rw [LQ]
 exact Nat.lt_of_le_of_lt (Nat.add_le_add_right Q.len 3) (lb rfl)
theorem Q8.del (Q:Q8 q):Q8 (rmN i q):=by
 have sb:(rmN i q).Sublist q:=List.filter_sublist
 exact ⟨fun t m=>Q.lt t (sb.subset m),(sb.map _).nodup Q.nd⟩
theorem Bs.del (B:Bs es q) (Q:Q8 q) (hi:i<4):Bs (cv r es (.delete (pth i))) (rmN i q):=by
 refine zEEEAAA B fun e0 e1 e2 gR0 h0 h1 gC0=>?_
 refine zAAA gC0 fun h2 h3 h4 h5=>?_
 subst gR0
 refine zAAAAAA (bh ⟨i,hi⟩) fun f1 f2 f3 f4 f5 f6 _=>?_
 refine ⟨e0,e1,fX false e2,?_,h0,h1,h2,h3,h4,h5⟩
 have hd:oy (pth i) (([47],e0) :: (pB,e1) :: (pO,e2) :: q.map Pl.pe)=([47],e0) :: (pB,e1) :: (pO,e2) :: (rmN i q).map Pl.pe:=by
  unfold oy
  rw [List.filter_cons_of_pos (by rw [decide_eq_false fun e=>f2 (Eq.symm e)]; rfl),List.filter_cons_of_pos (by rw [decide_eq_false fun e=>f6 (Eq.symm e)]; rfl),List.filter_cons_of_pos (by rw [decide_eq_false fun e=>f5 (Eq.symm e)]; rfl),List.filter_map]
  unfold rmN
  congr 4
  refine List.filter_congr fun u mu=>?_
  show (!decide (pth u.sp=pth i))=!decide (u.sp=i)
  by_cases e:u.sp=i
  ·rw [e]
   rw [decide_eq_true rfl,decide_eq_true rfl]
  ·rw [decide_eq_false e,decide_eq_false fun z=>e ((sT ⟨u.sp,Q.lt u mu⟩ ⟨i,hi⟩).1 z)]
 show upE (bZ (pth i)) (fX false) (oy _ _)=_
 rw [f3,hd]
 exact pj (Q8.del Q).lt
theorem Bs.okDel (B:Bs es q) (Q:Q8 q) (hi:i<4) (h:i∈q.map Pl.sp):okC es (.delete (pth i)):=by
 refine zAAAAAA (bh ⟨i,hi⟩) fun f1 f2 f3 f4 f5 f6 _=>?_
 refine zEA B.mO fun e m _=>?_
 refine ⟨aW f1,f2,?_,?_,B.ok Q,by rw [f3]; exact fun e=>f5 e.symm,e,by rw [f3]; exact m⟩
 ·obtain ⟨t,mt,rfl⟩:=List.mem_map.mp h
  exact ⟨_,B.mem mt⟩
 unfold dM
 rw [List.filter_eq_nil_iff.mpr]
 ·rfl
 ·obtain ⟨e0,e1,e2,rfl,_⟩:=B
  intro p mp hk
  unfold kid at hk
  rw [Bool.and_eq_true] at hk
  have pq:=of_decide_eq_true hk.2
  cases mp with
  | head=>cases hk.1
  | tail _ mp=>cases mp with
   | head=>rw [show bZ pB=[47] from ay.2.2.2.1] at pq; exact f2 pq.symm
   | tail _ mp=>cases mp with
    | head=>rw [show bZ pO=pB from ay.2.2.1] at pq; exact f6 pq.symm
    | tail _ mp=>
     rw [List.map_map] at mp
     refine zEA (List.mem_map.mp mp) fun u mu gR0=>?_
     subst gR0
     exact f5 (pq.symm.trans (bh ⟨u.sp,Q.lt u mu⟩).2.2.1)
theorem wK (B:Bs es q) (h:i∈q.map Pl.sp):∃ e:En,(pth i,e)∈es∧e.ver≠-1:=by
 refine zEA (List.mem_map.mp h) fun t mt gR0=>?_
 subst gR0
 exact ⟨_,B.mem mt,show (0:Int)≠-1 by decide⟩
end
noncomputable abbrev gV (s:Nat) (n:Int):AO:=.inst 802 [(440023414132,.ref s),(1769300593,.str pO),(504381206628,.int n)]
theorem L8.kb {T T':Hp} {s lr sp st sd ep m b:Nat} {n:Int} {ss:List Sn} {es:Es} {rev:Int} (L:L8 T s lr sp st sd ep ss es m rev) (h:T.get b=some (gV s n)) (u:Upd T.n (K8 s lr sd) T T'):T'.get b=some (gV s n):=by
 refine zEEA L.X fun sf rows X _=>?_
 exact u.get ⟨aJ X.hs h rfl,aJ X.hr h rfl,aJ L.se.hd h rfl,rfl⟩ h
noncomputable def lt3 (i:Nat):Bool:=Nat.blt i 3
noncomputable abbrev nmF:PEs:=.cons (.meth (.loc 1718510191) dR (.cons (.str [105,110,45]) .nil)) .nil
noncomputable abbrev owE:PE:=.attr (.meth (.attr (.attr (.loc 1735222900) 440023414132) 1717990261) 525923086182 (.cons (.call (.glb 1869246571) (.cons (.attr (.loc 1735222900) 1769300593) (.cons (.loc 1718510191) .nil))) .nil)) 495639820400
noncomputable abbrev soI:PEs:=.cons (.and (.cons (.cmp .isnt (.loc 6713200) .none) (.cons (.cmp .isin (.bin .add (.str [105,110,45]) (.call (.glb 7566708) (.cons (.loc 6713200) .nil))) (.loc 499934716527)) .nil))) .nil
noncomputable abbrev soE:PE:=.call (.glb 111490731569268) (.cons (.listc (.loc 6713200) [6713200] (.loc 128038988642416) soI) .nil)
noncomputable abbrev ent (i:Nat) (ma:Int):En:=⟨.str [],0,0,.int ((i+2:Nat):Int),.none,.none,0,ma,ma⟩
theorem kW {t:Pl} (h:t.sp<3):t.e=ent t.sp t.ma:=by
 have:gr t.sp=.int ((t.sp+2:Nat):Int):=by
  unfold gr
  rw [show Nat.blt t.sp 3=true from Nat.ble_eq_true_of_le h]; rfl
 show (⟨_,_,_,gr t.sp,_,_,_,_,_⟩:En)=_
 rw [this]
section
variable {c:Cx} (ok:Ok c) (hG:c.G=G) {d s lr sp st sd ep m b:Nat} {T T0:Hp} {ss:List Sn} {es:Es} {rev n:Int} {x:Sn} {q:List Pl} {sf:SF}
include ok hG
theorem lw (hn:1≤T.n) (h1:1≤n):CaP c (aq T (.inst 802 [])) 759 [.ref T.n,.ref s,.str pO,.int n] (d+2) fun v T'=>v=.none∧T'.get T.n=some (gV s n)∧Upd T.n All T T':=by
 refine aH ok (l:=[(1735222900,_),(440023414132,_),(1769300593,_),(504381206628,_)]) (tF hG rfl) rfl fun Qz hQ=>?_
 refine be ok (aj rfl) rfl (by exact (ag _ _)) (by exact tA hG rfl) (by exact lb rfl) (by first|assumption|exact Nat.le_add_left 1 _|exact lb rfl) ?_
 refine be ok (aj rfl) rfl (by exact ac (ag _ _)) (by exact tA hG rfl) (by exact lb rfl) (by first|assumption|exact Nat.le_add_left 1 _|exact lb rfl) ?_
 refine be ok (aS ok (tG hG rfl) (tF hG rfl) (ah rfl ae) (lJ ok hG h1)) rfl (by exact ac (ac (ag _ _))) (by exact tA hG rfl) (by exact lb rfl) (by first|assumption|exact Nat.le_add_left 1 _|exact lb rfl) ?_
 apply ax
 apply hQ
 exact ⟨rfl,ac (ac (ac (ag _ _))),by (with_reducible repeat' first|assumption|exact Upd.refl|apply Upd.new|apply Upd.put|apply Upd.leA)⟩
theorem fV (hb:T.get b=some (gV s n)):CaP c T 766 [.ref b] (d+3) fun u T'=>u=.str (pth 3)∧Upd T.n All T T':=by
 have h:=iA ok hG (d:=d) (T:=T) (p:=pO) (q:=nmI 3) ay.2.2.2.2.1 (aW (bh 3).1) (lb rfl) (lb rfl)
 refine aH ok (l:=[(1735222900,_)]) (tF hG rfl) rfl fun Qz hQ=>?_
 apply am
 apply iW
 refine cX ok (tG hG rfl) (tF hG rfl) ?_
 apply aA
 apply cx ok
 exact rfl
 ·trivial
 exact tA hG rfl
 exact rfl
 apply aA
 apply aY
 apply au
 refine CaP.imp (h) ?_
 rintro _ T1 ⟨rfl,u1⟩
 apply hQ
 exact ⟨rfl,u1⟩
theorem uw {src A:Nat} {mm:List Nat} (hA:T0.n≤A) (h1:1≤A) (lt:∀ i∈mm,i<4) (sz:mm.length≤4) (hsrc:T0.get src=some (.list ((mm.map nmI).map .str))) (l:List Nat):∀ (pr:List Nat) (T:Hp) (loc:Loc),mm=pr ++ l→Upd T0.n All T0 T→T.get A=some (.list (((pr.filter lt3).map nmI).map .str)) →
  CoP c d loc T (.list (.loc 1718510191)) A [1718510191] src .list pr.length nmF fun T'=>T'.get A=some (.list (((mm.filter lt3).map nmI).map .str))∧Upd T0.n All T0 T':=by
 induction l with
 | nil=>
  intro pr T loc hx u ha
  rw [List.append_nil] at hx; subst hx
  exact cI (cj (u.get trivial hsrc) (by rw [List.map_map]; exact cq _ _)) ⟨ha,u⟩
 | cons i l ih=>
  intro pr T loc hx u ha
  have mi:i∈mm:=hx▸List.mem_append_right _ (.head _)
  have f8:=(bh ⟨i,lt i mi⟩).2.2.2.2.2.2.2
  have f8:sIn.isPrefixOf (nmI i)=lt3 i:=f8
  have k1:lk (pt loc 1718510191 (.str (nmI i))) 1718510191=some (.str (nmI i)):=ak
  have tn:=cj (j:=pr.length) (x:=some (.str (nmI i))) (u.get trivial hsrc) (by rw [List.map_map,hx]; exact bV _ _ _ _)
  have ih:=fun T=>ih (pr ++ [i]) T (pt loc 1718510191 (.str (nmI i))) (by rw [hx,List.append_assoc]; rfl)
  rw [List.length_append,List.filter_append] at ih
  cases hb:lt3 i with
  | false=>
   rw [List.filter_cons_of_neg (by rw [hb]; exact Bool.false_ne_true)] at ih
   refine eh tn aX ?_
   apply eB
   refine bS rfl ?_
   apply iG
   refine aE k1 ?_
   refine tP cW ?_
   apply aA; apply aY; apply au
   refine t0 cZ ?_
   rw [f8,hb]
   apply eG; apply bd; apply bd
   exact ih T u (by rw [show List.filter lt3 ([]:List Nat)=[] from rfl,List.append_nil]; exact ha)
  | true=>
   rw [List.filter_cons_of_pos hb] at ih
   refine cN tn aX ?_
   apply je
   refine bS rfl ?_
   apply iG
   refine aE k1 ?_
   refine tP cW ?_
   apply aA; apply aY; apply au
   refine t0 cZ ?_
   rw [f8,hb]
   apply eG; apply bd; apply cH; apply bd
   refine aE k1 ?_
   refine mD ha (by rw [LQ,LQ]; exact lt4 (Nat.le_trans (List.length_filter_le _ _) (Nat.le_trans (by rw [hx,List.length_append]; exact Nat.le_add_right _ _) sz)) rfl) h1 ?_
   exact ih _ (u.put hA) (by rw [List.map_append,List.map_append]; exact ac ha)
theorem uu {src A lo:Nat} {Lx:List Nat} (hA:T0.n≤A) (h1:1≤A) (rise:Lx.Pairwise (·<·)) (lt:∀ i∈Lx,i<3) (hb:T0.get b=some (gV s n)) (hs0:T0.get s=some sf.ob) (tr:aB T0 lo sf.tree es) (he:∀ i∈Lx,∃ ma,(pth i,ent i ma)∈es) (hsrc:T0.get src=some (.list ((Lx.map nmI).map .str))) (l:List Nat):∀ (pr:List Nat) (T:Hp) (loc:Loc),Lx=pr ++ l→Upd T0.n All T0 T→T.get A=some (.set (pr.map (·+2)) none)→lk loc 1735222900=some (.ref b) →
  CoP c (d+2) loc T (.set owE) A [1718510191] src .list pr.length .nil fun T'=>T'.get A=some (.set (Lx.map (·+2)) none)∧Upd T0.n All T0 T':=by
 induction l with
 | nil=>
  intro pr T loc hx u ha hs
  rw [List.append_nil] at hx; subst hx
  exact cI (cj (u.get trivial hsrc) (by rw [List.map_map]; exact cq _ _)) ⟨ha,u⟩
 | cons i l ih=>
  intro pr T loc hx u ha hs
  have mi:i∈Lx:=hx▸List.mem_append_right _ (.head _)
  have i4:i<4:=Nat.lt_succ_of_lt (lt i mi)
  refine gp fun gP gH=>?_
  refine zAAAAAA (bh ⟨i,i4⟩) fun f1 f2 f3 f4 f5 f6 gC0=>?_
  refine zA gC0 fun f7 f8=>?_
  refine zE (he i mi) fun ma me=>?_
  have k1:lk (pt loc 1718510191 (.str (nmI i))) 1718510191=some (.str (nmI i)):=ak
  have k2:lk (pt loc 1718510191 (.str (nmI i))) 1735222900=some (.ref b):=aa rfl hs
  refine zEEAL (iA ok hG (d:=d) (T:=T) (p:=pO) (q:=nmI i) ay.2.2.2.2.1 (aW f1) (lb rfl) (Nat.le_trans f7 (lb rfl))) fun T1 hj u1=>?_
  have hj:Ca c 124 [.str pO,.str (nmI i)] (d+2) T (.str (pth i)) T1:=hj
  have u01:=u.then u1 u.1
  refine zEA (cC ok hG (d:=d+1) (tr.all u01) me) fun r he1 ge=>?_
  refine zEEEA (tr.all u) fun dr ep9 xs t3 hx3=>?_
  have ht:=t3.ht
  refine zEEEA (tr.all u01) fun dr1 ep1 xs1 t31 hx31=>?_
  apply gH;clear gH
  have ht1:=t31.ht
  have hb1:=u.get trivial hb
  have hs1:=u.get trivial hs0
  have ha1:=u1.get trivial ha
  have ok1:=okL rise lt hx
  have ih:=fun T=>ih (pr ++ [i]) T (pt loc 1718510191 (.str (nmI i))) (by rw [hx,List.append_assoc]; rfl)
  rw [List.length_append,List.map_append] at ih
  refine ui (cj (x:=some (.str (nmI i))) (u.get trivial hsrc) (by rw [List.map_map,hx]; exact bV _ _ _ _)) aX ?_
  apply cH
  apply bd
  apply dJ ok
  apply gY ok
  apply dJ ok
  apply cx ok
  exact k2
  ·trivial
  exact tA hG rfl
  exact rfl
  apply ft
  ·trivial
  exact tA hG rfl
  exact rfl
  apply iQ
  ·trivial
  exact tM hG rfl
  exact rfl
  apply aA
  refine cX ok (tG hG rfl) (tF hG rfl) ?_
  apply aA
  apply cx ok
  exact k2
  ·trivial
  exact tA hG rfl
  exact rfl
  refine aC k1 ?_
  apply au
  refine bK (hj) ?_
  apply au
  refine bK (he1) ?_
  apply ft
  ·trivial
  exact tA hG rfl
  exact rfl
  apply yq
  ·trivial
  exact ok1
  exact h1
  exact ih _ (u01.put hA) (ac ha1) k2
end
theorem cG {xs:List Nat} {x:Nat} {v:AV} (h:d3 xs x=false) {l:Loc} (e:lk l x=some v):lk (rm xs l) x=some v:=by
 induction l with
 | nil=>cases e
 | cons p r ih=>
  obtain ⟨k,w⟩:=p
  rw [bC] at e
  show lk (cond (d3 xs k) (rm xs r) ((k,w) :: rm xs r)) x=some v
  by_cases z:k=x
  ·rw [if_pos z] at e
   rw [z,h]
   show lk ((x,w) :: rm xs r) x=some v
   rw [bC,if_pos rfl]; exact e
  ·rw [if_neg z] at e
   cases d3 xs k
   ·show lk ((k,w) :: rm xs r) x=some v
    rw [bC,if_neg z]; exact ih e
   ·exact ih e
noncomputable abbrev nI (i:Nat):Int:=((i+2:Nat):Int)
noncomputable def lqL (q:List Pl):List Nat:=(q.map Pl.sp).filter lt3
theorem kU {q:List Pl} {i:Nat} (h:i∈lqL q):i<3∧i∈q.map Pl.sp:=⟨Nat.le_of_ble_eq_true (List.mem_filter.mp h).2,(List.mem_filter.mp h).1⟩
theorem iE {q:List Pl} {i:Nat} (h:i<3) (m:i∈q.map Pl.sp):i∈lqL q:=List.mem_filter.mpr ⟨m,Nat.ble_eq_true_of_le h⟩
section
variable {c:Cx} (ok:Ok c) (hG:c.G=G) {d s lr sp st sd ep m b:Nat} {T T0:Hp} {ss:List Sn} {es:Es} {rev n:Int} {x:Sn} {q:List Pl} {sf:SF}
include ok hG
theorem uo {τ Lx sl:List Nat} {ep len src A nr:Nat} (hA:T0.n≤A) (h1:1≤A) (lt:∀ i∈Lx,i<3) (hτ:∀ k∈τ,∃ i∈Lx,k=i+2) (hlen:τ.length=len) (sz:len≤10) (hsrc:T0.get src=some (.set τ (some (ep,sl)))) (hnr:T0.get nr=some (.list ((Lx.map nmI).map .str))) (l:List Nat):∀ (pr:List Nat) (T:Hp) (loc:Loc),τ=pr ++ l→Upd T0.n All T0 T→T.get A=some (.list ((pr.map fun k:Nat=>(k:Int)).map .int))→lk loc 499934716527=some (.ref nr) →
  CoP c d loc T (.list (.loc 6713200)) A [6713200] src (.set len ep sl) pr.length soI fun T'=>T'.get A=some (.list ((τ.map fun k:Nat=>(k:Int)).map .int))∧Upd T0.n All T0 T'∧T'.n=T.n:=by
 induction l with
 | nil=>
  intro pr T loc hx u ha hk
  rw [List.append_nil] at hx; subst hx
  exact cI (vm (u.get trivial hsrc) hlen (cq _ _)) ⟨ha,u,rfl⟩
 | cons k l ih=>
  intro pr T loc hx u ha hk
  refine zEA (hτ k (hx▸List.mem_append_right _ (.head _))) fun i mi gR0=>?_
  subst gR0
  have i3:=lt i mi
  have k1:lk (pt loc 6713200 (.int (nI i))) 6713200=some (.int (nI i)):=ak
  have k2:lk (pt loc 6713200 (.int (nI i))) 499934716527=some (.ref nr):=aa rfl hk
  have f1:sIn ++ bL (i+2)=nmI i:=kI ⟨i,i3⟩
  have hd:(bL (i+2)).length≤2:=iJ.1
  have hnr1:=u.get trivial hnr
  have kall:((Lx.map nmI).map AV.str).all (kin · (.str (sIn ++ bL (i+2))))=true:=List.all_eq_true.mpr fun y my=>by
   refine zEA (List.mem_map.mp my) fun z _ gR0=>?_
   subst gR0
   rfl
  have kany:((Lx.map nmI).map AV.str).any (sq · (.str (sIn ++ bL (i+2))))=true:=List.any_eq_true.mpr ⟨.str (nmI i),List.mem_map_of_mem (List.mem_map_of_mem mi),by rw [f1]; exact decide_eq_true rfl⟩
  refine cN (vm (x:=some (.int (nI i))) (u.get trivial hsrc) hlen (by rw [hx]; exact bV (fun k:Nat=>AV.int (k:Int)) _ _ _)) aX ?_
  apply je
  apply fR
  apply cu
  apply aT
  refine aE k1 ?_
  apply gG
  refine bE true (by first | exact bv | exact bN rfl | exact bX) ?_
  apply bd
  apply cu
  apply aT
  apply i8
  apply aY
  refine bA ok (tG hG rfl) (by first | exact .inl ⟨_,rfl⟩ | exact .inr ⟨_,rfl⟩) ?_
  refine aC k1 ?_
  apply au
  refine eF (kR (Nat.lt_of_lt_of_le (Nat.add_lt_add_right i3 2) (lb rfl))) ?_
  refine n9 (fO (lt4 (Nat.add_le_add_left hd 3) rfl)) ?_
  refine aE k2 ?_
  refine bE true (cmt (tJ (.inr hnr1) kall) kany) ?_
  apply bd
  apply gq
  apply bd
  apply cH
  apply bd
  refine aE k1 ?_
  apply mD
  ·trivial
  rw [LQ,LQ]; exact lt4 (Nat.le_trans (by rw [← hlen,hx,List.length_append]; exact Nat.le_add_right _ _) sz) rfl
  first | assumption | exact Nat.le_add_left 1 _ | exact lb rfl
  have:=ih (pr ++ [i+2]) (aI T A (.list ((pr.map fun k:Nat=>(k:Int)).map .int ++ [.int (nI i)]))) (pt loc 6713200 (.int (nI i))) (by rw [hx,List.append_assoc]; rfl) (u.put hA) (by rw [List.map_append,List.map_append]; exact ac ha) k2
  rw [List.length_append] at this
  exact this
theorem xP {Lx:List Nat} {loc:Loc} {r nr:Nat} (rise:Lx.Pairwise (·<·)) (lt:∀ i∈Lx,i<3) (hset:T.get r=some (.set (Lx.map (·+2)) none)) (hn:T.get nr=some (.list ((Lx.map nmI).map .str))) (h1:lk loc 128038988642416=some (.ref r)) (h2:lk loc 499934716527=some (.ref nr)) (pn:1≤T.n):Ev c soE d loc T (.ref (T.n+1)) (aq (lX T r) (.list ((Lx.map nI).map .int))):=by
 have l3:Lx.length≤3:=ol rise 3 0 (fun x m=>⟨Nat.zero_le _,lt x m⟩) (Nat.zero_le _)
 refine yg hset fun τ ep sl p=>?_
 have lτ:τ.length=Lx.length:=by rw [p.length_eq,LQ]
 have hnr:(aI T r (.set τ (some (ep,sl)))).get nr=some (.list ((Lx.map nmI).map .str)):=an hset hn rfl
 obtain ⟨T1,hc,g1,u1,n1⟩:=uo ok hG (d:=d) (T0:=aI T r (.set τ (some (ep,sl)))) (τ:=τ) (sl:=sl) (ep:=ep) (src:=r) (A:=T.n) (nr:=nr) (Lx:=Lx) (Nat.le_refl _) pn lt (fun k mk=>by obtain ⟨i,mi,e⟩:=List.mem_map.mp (p.subset mk); exact ⟨i,mi,e.symm⟩) rfl (by rw [lτ]; exact Nat.le_trans l3 (lb rfl)) (ac hset) hnr τ [] (aq (aI T r (.set τ (some (ep,sl)))) (.list [])) (rm [bq,6713200] loc) rfl Upd.refl.new (ag _ _) (cG rfl h2)
 have n1:T1.n=T.n+1:=n1
 refine qR (T1:=aq T1 (.list ((Lx.map nI).map .int))) (show T.n+1+1=T1.n+1 by rw [n1]) (fun z o h=>?_) ?_
 ·rw [ce] at h ⊢
  rw [n1]
  by_cases q:z=T.n+1
  ·rw [if_pos q]; rw [if_pos (show z=(lX T r).n from q)] at h; exact h
  ·rw [if_neg q]; rw [if_neg (show ¬ z=(lX T r).n from q)] at h
   refine zAA (sY h) fun e1 e2 e3=>?_
   exact u1.get trivial (cb e1 e3)
 ·have:EvP c d loc (aI T r (.set τ (some (ep,sl)))) soE fun v T'=>v=.ref (T.n+1)∧T'=aq T1 (.list ((Lx.map nI).map .int)):=by
   refine bA ok (tG hG rfl) (.inl ⟨_,rfl⟩) ?_
   apply aA
   apply uq
   refine aE h1 ?_
   refine jx (ikE (ac hset) rfl) ?_
   refine wn hc ?_
   apply au
   refine eF (o8 (l:=τ.map fun k:Nat=>(k:Int)) (m:=Lx.map nI) (iZ g1 (by rw [LQ,LQ,lτ]; exact Nat.lt_of_le_of_lt l3 (lb rfl))) (by rw [LQ,lτ]; exact Nat.lt_of_le_of_lt l3 (lb rfl)) ?_ ?_) ?_
   ·have:=(p.map fun k:Nat=>(k:Int)).symm
    rw [List.map_map] at this; exact this
   ·exact List.pairwise_map.mpr (rise.imp fun {a b} h=>decide_eq_false (Int.not_lt.mpr (Int.ofNat_le.mpr (Nat.add_le_add_right (Nat.le_of_lt h) 2))))
   ·exact ⟨by rw [n1],rfl⟩
  refine zEEAL this fun _ h gR0=>?_
  subst gR0
  exact h
theorem dL (L:L8 T s lr sp st sd ep ss es m rev) (mx:x∈ss) (Q:Q8 q) (W:WS es q) (hb:T.get b=some (gV s n)):CaP c T 771 [.ref b,.int x.num] (d+8) fun v T'=>∃ (r:Nat) (Lx:List Nat),v=.ref r∧T'.get r=some (.list ((Lx.map nI).map .int))∧Lx.Perm (lqL q)∧Lx.Pairwise (·<·)∧L8 T' s lr sp st sd ep ss es m rev∧Upd T.n (K8 s lr sd) T T'∧T.n≤r:=by
 refine zEEAAA (id L.X) fun sf rows X _ e _=>?_
 have hs:=X.hs
 rcases W with ⟨rfl,rfl⟩ | B
 ·have nB:pB∉cS.map (·.1):=show pB∉[[47]] by decide +kernel
  have nO:pO∉cS.map (·.1):=show pO∉[[47]] by decide +kernel
  have rc:Rch cS pO:=by
   refine .up (aW ay.1) ay.2.2.2.2.1 (.inl nO) ?_
   rw [ay.2.2.1]
   refine .up (aW ay.2.1) ay.2.2.2.2.2.1 (.inl nB) ?_
   rw [ay.2.2.2.1]
   exact .here (.head _) rfl
  refine zEEALA (p9 ok hG (d:=d) (b:=false) L mx (aW ay.1) rc (.inr ⟨rfl,nO⟩)) fun T1 h1 L1 u1=>?_
  refine aH ok (l:=[(1735222900,_),(126883592042095,_)]) (tF hG rfl) rfl fun Qz hQ=>?_
  refine bF (fU (t:=false) (bj (t:=false) rfl (dN ok (aO ok rfl (by trivial) (by exact tA hG rfl) (by exact rfl)) (by trivial) (by exact tM hG rfl) (by exact rfl) (ah rfl (ai (aO ok rfl (by trivial) (by exact tA hG rfl) (by exact rfl)) ae)) (h1)))) ?_
  refine aK (cT ae (lb rfl)) ?_
  apply hQ
  exact ⟨_,[],rfl,ag _ _,.refl _,.nil,L1.new Upd.refl.new,u1.new,u1.1⟩
 ·obtain ⟨mm,pm,so,rise⟩:=oG (l:=q.map Pl.sp) (fun i h=>by obtain ⟨t,mt,rfl⟩:=List.mem_map.mp h; exact Q.lt t mt) Q.nd
  have mlt:∀ i∈mm,i<4:=fun i h=>by obtain ⟨t,mt,rfl⟩:=List.mem_map.mp (pm.subset h); exact Q.lt t mt
  have msz:mm.length≤4:=by rw [pm.length_eq,LQ]; exact Q.len
  refine gp fun gP gH=>?_
  refine zEA B.mO fun eO mO _=>?_
  refine zEEALA (p9 ok hG (d:=d) (b:=true) L mx (aW ay.1) B.rO (.inl ⟨rfl,eO,mO⟩)) fun T1 h1 L1 u1=>?_
  have hb1:=L.kb hb u1
  obtain ⟨_,T2,h2,r2,rfl,g2,L2,u2⟩:=pS ok hG (d:=d) (m9:=mm.map nmI) L1 mx (aW ay.1) B.rO mO (B.ok Q) (by rw [B.kids Q]; exact pm.map nmI) so
  apply gH;clear gH
  have u12:=u1.then u2 u1.1
  have hb2:=L.kb hb u12
  refine zEAA (uw ok hG (d:=d+7) (T0:=T2) (A:=T2.n) (src:=r2) (mm:=mm) (Nat.le_refl _) L2.pn mlt msz g2 mm [] (aq T2 (.list [])) (rm [bq,1718510191] [(1735222900,.ref b),(126883592042095,.int x.num)]) rfl Upd.refl.new (ag _ _)) fun T3 h3 g3 u3=>?_
  have L3:=L2.new u3
  have hb3:=u3.get trivial hb2
  refine zEEA (id L3.X) fun sf3 rows3 X3 _=>?_
  have rise3:(mm.filter lt3).Pairwise (·<·):=rise.sublist List.filter_sublist
  have lt3':∀ i∈mm.filter lt3,i<3:=fun i h=>Nat.le_of_ble_eq_true (List.mem_filter.mp h).2
  obtain ⟨T4,h4,g4,u4⟩:=uu ok hG (d:=d+5) (T0:=T3) (A:=T3.n) (src:=T2.n) (lo:=1) (Lx:=mm.filter lt3) (Nat.le_refl _) L3.pn rise3 lt3' hb3 X3.hs X3.tr (fun i h=>by
    refine zEA (List.mem_map.mp (pm.subset (List.mem_filter.mp h).1)) fun t mt e=>?_
    have:=B.mem mt
    rw [kW (by rw [e]; exact lt3' i h),e] at this
    exact ⟨_,this⟩) g3 (mm.filter lt3) [] (aq T3 (.set [] none)) (rm [bq,1718510191] [(1735222900,.ref b),(126883592042095,.int x.num),(499934716527,.ref T2.n)]) rfl Upd.refl.new (ag _ _) rfl
  have hs1:=(let ⟨sf1,rows1,X1,_⟩:=L1.X; ⟨sf1,X1.hs⟩:∃ sf1:SF,T1.get s=some sf1.ob)
  obtain ⟨sf1,hs1⟩:=hs1
  have g3':=u4.get trivial g3
  have so4:=xP ok hG (d:=d+7) (T:=T4) (loc:=[(1735222900,.ref b),(126883592042095,.int x.num),(499934716527,.ref T2.n),(128038988642416,.ref T3.n)]) (r:=T3.n) (nr:=T2.n) rise3 lt3' g4 g3' rfl rfl (Nat.le_trans L3.pn u4.1)
  have u24:Upd T2.n All T2 T4:=u3.then u4 u3.1
  have uf:Upd T2.n All T2 (aq (lX T4 T3.n) (.list (((mm.filter lt3).map nI).map .int))):=⟨Nat.le_trans u24.1 (Nat.le_add_right _ 2),fun r a lr _ g=>af (uy (u24.2 r a lr trivial g) (Nat.ne_of_lt (Nat.lt_of_lt_of_le lr u3.1)))⟩
  refine aH ok (l:=[(1735222900,_),(126883592042095,_)]) (tF hG rfl) rfl fun Qz hQ=>?_
  refine aL (fU (t:=true) (bj (t:=true) rfl (dN ok (aO ok rfl (by trivial) (by exact tA hG rfl) (by exact rfl)) (by trivial) (by exact tM hG rfl) (by exact rfl) (ah rfl (ai (aO ok rfl (by trivial) (by exact tA hG rfl) (by exact rfl)) ae)) (h1)))) ?_
  refine aR (dQ (dN ok (aO ok rfl (by trivial) (by exact tA hG rfl) (by exact rfl)) (by trivial) (by exact tM hG rfl) (by exact rfl) (ah rfl (ai (aO ok rfl (by trivial) (by exact tA hG rfl) (by exact rfl)) ae)) (h2)) (ikL g2) (h3)) ?_
  apply am
  apply xd
  refine aE rfl ?_
  refine jx (ikL g3) ?_
  refine wn (h4) ?_
  apply am
  apply iW
  refine ⟨_,_,so4,?_⟩
  apply hQ
  exact ⟨_,mm.filter lt3,rfl,ag _ _,pm.filter lt3,rise3,L2.new uf,u12.then uf.a u12.1,Nat.le_succ_of_le (Nat.le_trans u12.1 u24.1)⟩
end
noncomputable def opB (q:List Pl):Bool:=!decide (lqL q=[]) && decide (3∈q.map Pl.sp)
theorem wA {r1 r2 n:Int}:Bs (cv r2 (cv r1 cS (crC pB [] false n)) (crC pO [] false n)) []:=by
 refine ⟨fX false hZ,fX false ⟨.str [],0,0,.none,.none,.none,0,r1,r1⟩,⟨.str [],0,0,.none,.none,.none,0,r2,r2⟩,?_,rfl,rfl,rfl,⟨rfl,rfl⟩,⟨rfl,rfl⟩,⟨rfl,rfl⟩⟩
 show upE (bZ pO) _ (upE (bZ pB) _ _ ++ _) ++ _=_
 rw [show bZ pO=pB from ay.2.2.1,show bZ pB=[47] from ay.2.2.2.1]
 rfl
theorem cY {q:List Pl} (Q:Q8 q):(lqL q).length≤4:=by
 refine Nat.le_trans (List.length_filter_le _ _) ?_
 rw [LQ]; exact Q.len
section
variable {c:Cx} (ok:Ok c) (hG:c.G=G) {d s lr sp st sd ep m b:Nat} {T:Hp} {ss:List Sn} {es:Es} {rev n:Int} {x:Sn} {q:List Pl}
include ok hG
theorem qL {i:Nat} (L:L8 T s lr sp st sd ep ss es m rev) (mx:x∈ss) (Q:Q8 q) (B:Bs es q) (hi:i<4):CaP c T 601 [.ref s,.int x.num,.str (pth i)] (d+7) fun v T'=>v=.bool (decide (i∈q.map Pl.sp))∧L8 T' s lr sp st sd ep ss es m rev∧Upd T.n (K8 s lr sd) T T':=by
 refine p9 ok hG L mx (aW (bh ⟨i,hi⟩).1) (B.rP Q hi) ?_
 by_cases h:i∈q.map Pl.sp
 ·refine .inl ⟨decide_eq_true h,?_⟩
  refine zEA (List.mem_map.mp h) fun t mt gR0=>?_
  subst gR0
  exact ⟨_,B.mem mt⟩
 ·exact .inr ⟨decide_eq_false h,B.no Q hi h⟩
theorem dn (L:L8 T s lr sp st sd ep ss es m rev) (mx:x∈ss) (Q:Q8 q) (W:WS es q) (hb:T.get b=some (gV s n)):CaP c T 785 [.ref b,.int x.num] (d+9) fun v T'=>v=.bool (opB q)∧L8 T' s lr sp st sd ep ss es m rev∧Upd T.n (K8 s lr sd) T T':=by
 refine zEEAEELA (dL ok hG (d:=d) L mx Q W hb) fun T1 r Lx h1 g1 gC0=>?_
 refine zAAAA gC0 fun pm rise L1 u1 _=>?_
 have hb1:=L.kb hb u1
 have hl:Lx.length=(lqL q).length:=pm.length_eq
 have hl2:(Lx.map nI).length<4000:=by
  rw [LQ,hl]
  exact Nat.lt_of_le_of_lt (cY Q) (lb rfl)
 by_cases z:lqL q=[]
 ·skip
  refine aH ok (l:=[(1735222900,_),(126883592042095,_)]) (tF hG rfl) rfl fun Qz hQ=>?_
  apply am
  apply iW
  apply o3
  apply jw
  apply oO
  refine bA ok (tG hG rfl) (by first | exact .inl ⟨_,rfl⟩ | exact .inr ⟨_,rfl⟩) ?_
  apply aA
  apply cD ok
  exact rfl
  ·trivial
  exact tM hG rfl
  exact rfl
  refine aC rfl ?_
  apply au
  refine bK (h1) ?_
  apply au
  refine eF (eg g1 hl2) ?_
  apply bw
  refine bE _ (cmt jd (decide_eq_false (by rw [LQ,hl,z]; decide))) ?_
  apply eG
  apply bd
  apply hQ
  exact ⟨by unfold opB; rw [decide_eq_true z]; rfl,L1,u1⟩
 ·have B:Bs es q:=W.elim (fun w=>absurd (by rw [w.2]; rfl) z) id
  refine zEEAL (fV ok hG (d:=d+5) hb1) fun T2 h2 u2=>?_
  refine zEEA (id L1.X) fun sf1 rows1 X1 _=>?_
  have hs1:=X1.hs
  have hs2:=u2.get trivial hs1
  refine zEEALA (qL ok hG (d:=d+1) (i:=3) (L1.new u2) mx Q B (Nat.le_refl _)) fun T3 h3 L3 u3=>?_
  have ln:0<(lqL q).length:=List.length_pos_iff.mpr z
  refine aH ok (l:=[(1735222900,_),(126883592042095,_)]) (tF hG rfl) rfl fun Qz hQ=>?_
  apply am
  apply iW
  apply o3
  apply nX
  apply oO
  refine bA ok (tG hG rfl) (by first | exact .inl ⟨_,rfl⟩ | exact .inr ⟨_,rfl⟩) ?_
  apply aA
  apply cD ok
  exact rfl
  ·trivial
  exact tM hG rfl
  exact rfl
  refine aC rfl ?_
  apply au
  refine bK (h1) ?_
  apply au
  refine eF (eg g1 hl2) ?_
  apply bw
  refine bE _ (cmt jd (decide_eq_true (by rw [LQ,hl]; exact Int.ofNat_lt.mpr ln))) ?_
  apply eG
  apply bd
  apply iT
  apply gY ok
  apply cx ok
  exact rfl
  ·trivial
  exact tA hG rfl
  exact rfl
  apply iQ
  ·trivial
  exact tM hG rfl
  exact rfl
  refine aC rfl ?_
  apply aA
  apply cD ok
  exact rfl
  ·trivial
  exact tM hG rfl
  exact rfl
  apply au
  refine bK (h2) ?_
  apply au
  refine bK (h3) ?_
  apply hQ
  exact ⟨by unfold opB; rw [decide_eq_false z]; rfl,L3,(u1.then u2.a u1.1).then u3 (Nat.le_trans u1.1 u2.1)⟩
theorem mN (L:L8 T s lr sp st sd ep ss es m rev) (mx:x∈ss) (Q:Q8 q) (W:WS es q) (hb:T.get b=some (gV s n)):CaP c T 799 [.ref b,.int x.num] (d+9) fun v T'=>v=.bool (decide (lqL q=[]))∧L8 T' s lr sp st sd ep ss es m rev∧Upd T.n (K8 s lr sd) T T':=by
 refine zEEAEELA (dL ok hG (d:=d) L mx Q W hb) fun T1 r Lx h1 g1 gC0=>?_
 refine zAAAA gC0 fun pm rise L1 u1 _=>?_
 have hl:Lx.length=(lqL q).length:=pm.length_eq
 have hl2:(Lx.map nI).length<4000:=by
  rw [LQ,hl]
  exact Nat.lt_of_le_of_lt (cY Q) (lb rfl)
 have he:decide (((Lx.map nI).length:Int)=0)=decide (lqL q=[]):=by
  rw [LQ,hl]
  exact decide_eq_decide.mpr ⟨fun h=>List.length_eq_zero_iff.mp (Int.ofNat_inj.mp h),fun h=>by rw [h]; rfl⟩
 refine aH ok (l:=[(1735222900,_),(126883592042095,_)]) (tF hG rfl) rfl fun Qz hQ=>?_
 refine aK (fB (aN ok (tG hG rfl) (.inl ⟨_,rfl⟩) (ai (bp ok rfl (by trivial) (by exact tM hG rfl) (by exact rfl) (ah rfl ae) (h1)) ae) (eg g1 hl2)) aD (by exact bf (congrArg some he))) ?_
 apply hQ
 exact ⟨rfl,L1,u1⟩
theorem uA (L:L8 T s lr sp st sd ep ss es m rev) (hm:m<30) (mx:x∈ss) (Q:Q8 q) (W:WS es q):CaP c T 745 [.ref s,.int x.num,.str pO] (d+14) fun v T'=>∃ es' m' rev',L8 T' s lr sp st sd ep ss es' m' rev'∧m'≤m+2∧Bs es' q∧Upd T.n (K8 s lr sd) T T':=by
 rcases W with ⟨rfl,rfl⟩ | B
 ·have nL:pB∉cS.map (·.1):=show pB∉[[47]] by decide +kernel
  have nO:pO∉cS.map (·.1):=show pO∉[[47]] by decide +kernel
  have r0:Rch cS [47]:=.here (.head _) rfl
  have rL:Rch cS pB:=.up (aW ay.2.1) ay.2.2.2.2.2.1 (.inl nL) (by rw [ay.2.2.2.1]; exact r0)
  have rO:Rch cS pO:=.up (aW ay.1) ay.2.2.2.2.1 (.inl nO) (by rw [ay.2.2.1]; exact rL)
  have ea:∀ r n:Int,cv r cS (crC pB [] false n)=[([47],fX false hZ),(pB,⟨.str [],0,0,.none,.none,.none,0,r,r⟩)]:=fun r n=>by
   show upE (bZ pB) _ _ ++ _=_
   rw [show bZ pB=[47] from ay.2.2.2.1]; rfl
  obtain ⟨_,T1,h1,rfl,L1,u1⟩:=pu ok hG (d:=d+1) (p:=pO) (m1:=m+1) (rev1:=rev+1) (es1:=cv (rev+1) cS (crC pB [] false x.num)) (e0:=hZ) (v0:=.str pB) L mx (aW ay.1) ay.2.2.2.2.1 rO nO (fun T1 L1=>by
    rw [ay.2.2.1]
    exact pu ok hG (d:=d) (p:=pB) (m1:=m) (rev1:=rev) (es1:=cS) (e0:=hZ) (v0:=.str [47]) L1 mx (aW ay.2.1) ay.2.2.2.2.2.1 rL nL (fun T2 L2=>by
     rw [ay.2.2.2.1]
     exact ⟨_,T2,qp ok hG,rfl,L2,Upd.refl⟩) (Nat.lt_trans hm (lb rfl)) (by rw [ay.2.2.2.1]; exact r0) ⟨aW ay.2.1,ay.2.2.2.2.2.1,nL,lb rfl,hZ,by rw [ay.2.2.2.1]; exact .head _,rfl,rfl,rfl⟩) (Nat.lt_trans (Nat.succ_lt_succ hm) (lb rfl))
   (by rw [ay.2.2.1,ea]; exact .up (aW ay.2.1) ay.2.2.2.2.2.1 (.inr ⟨_,.tail _ (.head _),rfl⟩) (by rw [ay.2.2.2.1]; exact .here (.head _) rfl))
   (by rw [ea]; exact ⟨aW ay.1,ay.2.2.2.2.1,show pO∉[[47],pB] by decide +kernel,lb rfl,_,by rw [ay.2.2.1]; exact .tail _ (.head _),rfl,rfl,rfl⟩)
  exact ⟨_,T1,h1,_,_,_,L1,Nat.le_refl _,wA,u1⟩
 ·obtain ⟨e,me,_⟩:=B.mO
  refine zEEALA (sR ok hG (d:=d+6) L mx (aW ay.1) ay.2.2.2.2.1 B.rO me) fun T1 h1 L1 u1=>?_
  exact ⟨_,T1,h1,es,m,rev,L1,Nat.le_add_right _ 2,B,u1⟩
end
section
variable {q:List Pl} {i j:Nat} {r:Int}
theorem wP (h:i<3):lqL (q ++ [⟨i,r⟩])=lqL q ++ [i]:=by
 unfold lqL
 rw [List.map_append,List.filter_append]
 congr 1
 exact List.filter_cons_of_pos (show lt3 i=true from Nat.ble_eq_true_of_le h)
theorem pA:lqL (q ++ [⟨3,r⟩])=lqL q:=by
 unfold lqL
 rw [List.map_append,List.filter_append]
 exact List.append_nil _
theorem ji:lqL (rmN i q)=(lqL q).filter fun k=>!decide (k=i):=by
 unfold lqL rmN
 rw [List.filter_filter,List.filter_map,List.filter_map,List.filter_filter]
 congr 1
 refine List.filter_congr fun t _=>?_
 show (lt3 t.sp && !decide (t.sp=i))=(!decide (t.sp=i) && lt3 t.sp)
 exact Bool.and_comm _ _
theorem nD:lqL (rmN 3 q)=lqL q:=by
 rw [ji]
 exact List.filter_eq_self.mpr fun k m=>by rw [decide_eq_false (Nat.ne_of_lt (kU m).1)]; rfl
theorem iF:j∈(q ++ [(⟨i,r⟩:Pl)]).map Pl.sp↔j∈q.map Pl.sp∨j=i:=by
 rw [List.map_append,List.mem_append]
 exact or_congr_right List.mem_singleton
theorem kT:j∈(rmN i q).map Pl.sp↔j∈q.map Pl.sp∧j≠i:=by
 constructor
 ·intro h
  refine zEA (List.mem_map.mp h) fun t mt gR0=>?_
  subst gR0
  refine zA (List.mem_filter.mp mt) fun h1 h2=>?_
  exact ⟨List.mem_map_of_mem h1,fun e=>by rw [decide_eq_true e] at h2; cases h2⟩
 ·rintro ⟨h,ne⟩
  refine zEA (List.mem_map.mp h) fun t mt gR0=>?_
  subst gR0
  exact List.mem_map_of_mem (List.mem_filter.mpr ⟨mt,by rw [decide_eq_false ne]; rfl⟩)
end
theorem aM.wl {T:Hp} {s lr sp st r:Nat} {sf:SF} {rows:List Rn} {es:Es} {l o:List AV} (X:aM T s lr sp st sf rows es) (g:T.get r=some (.list l)) (n:r≠lr):aM (aI T r (.list o)) s lr sp st sf rows es:=by
 have u:Upd T.n (But r) T (aI T r (.list o)):=Upd.refl.set (fun _ k=>k rfl) g
 exact ⟨an g X.hs rfl,X.ps,an g X.hl rfl,cb (Ne.symm n) X.hr,X.pl,fun y m=>(X.rn y m).upd u fun _ _ h=>aJ g h rfl,an g X.hp rfl,X.ts.off g rfl rfl rfl,X.tr.off g rfl rfl rfl,an g X.wat rfl,an g X.lea rfl,X.rep,X.lst,X.pos⟩
section
variable {T T':Hp} {s lr sp st sd ep m:Nat} {ss:List Sn} {es:Es} {rev:Int}
theorem L8.lst {l:List AV} {r:Nat} {o:List AV} (L:L8 T s lr sp st sd ep ss es m rev) (g:T.get r=some (.list l)) (n:r≠lr):L8 (aI T r (.list o)) s lr sp st sd ep ss es m rev:=
 let ⟨sf,rows,X,hr⟩:=L.X
 { L with X:=⟨sf,rows,X.wl g n,hr⟩,se:=L.se.off g rfl rfl,pn:=L.pn }
theorem jV (L:L8 T s lr sp st sd ep ss es m rev):lr<T.n:=by
 refine zEEA L.X fun sf rows X _=>?_
 exact aP X.hr
theorem L8.kl {r:Nat} {l:List AV} (L:L8 T s lr sp st sd ep ss es m rev) (n:r≠lr) (g:T.get r=some (.list l)) (u:Upd T.n (K8 s lr sd) T T'):T'.get r=some (.list l):=by
 refine zEEA L.X fun sf rows X _=>?_
 exact u.get ⟨aJ X.hs g rfl,n,aJ L.se.hd g rfl,rfl⟩ g
theorem L8.kt {r:Nat} {l:List AV} (L:L8 T s lr sp st sd ep ss es m rev) (g:T.get r=some (.tuple l)) (u:Upd T.n (K8 s lr sd) T T'):T'.get r=some (.tuple l):=by
 refine zEEA L.X fun sf rows X _=>?_
 exact u.get ⟨aJ X.hs g rfl,aJ X.hr g rfl,aJ L.se.hd g rfl,rfl⟩ g
theorem L8.ksp {y:Sp} (L:L8 T s lr sp st sd ep ss es m rev) (g:gd T y) (u:Upd T.n (K8 s lr sd) T T'):gd T' y:={ g with g:=L.kt g.g u }
theorem gd.all {y:Sp} (g:gd T y) (u:Upd T.n All T T'):gd T' y:={ g with g:=u.get trivial g.g }
theorem gd.lst {y:Sp} {r:Nat} {l o:List AV} (g:gd T y) (h:T.get r=some (.list l)):gd (aI T r (.list o)) y:={ g with g:=an h g.g rfl }
end
theorem ku.snoc {c:Cx} {d s:Nat} {nb:Int} {u:List Nat} {sf:SF} {y:Sp} {xs:List Sp}:∀ {es:Es},ku c d s nb u sf es xs→jX c d s nb u sf ((xs.map Sp.ch).foldl (cv (sf.rev+1)) es) y.stp y.ans y.ch→okC ((xs.map Sp.ch).foldl (cv (sf.rev+1)) es) y.ch→ku c d s nb u sf es (xs ++ [y]):=by
 induction xs with
 | nil=>intro es _ h1 h2; exact ⟨h1,h2,trivial⟩
 | cons z xs ih=>intro es h h1 h2; exact ⟨h.1,h.2.1,ih h.2.2 h1 h2⟩
structure EnS (c:Cx) (d s:Nat) (x:Sn) (rev:Int) (es:Es) (xs:List Sp) (q:List Pl):Prop where
 ok:∀ sf:SF,sf.rev=rev→ku c d s x.num x.u sf es xs
 B:Bs ((xs.map Sp.ch).foldl (cv (rev+1)) es) q
 Q:Q8 q
noncomputable abbrev spC (r i:Nat) (tl:List AV) (van:Bool) (nb:Int):Sp:=⟨r,[99,114,101,97,116,101],pth i,tl,.str (pth i),crC (pth i) [] van nb⟩
noncomputable abbrev spD (r i:Nat):Sp:=⟨r,[100,101,108,101,116,101],pth i,[],.none,.delete (pth i)⟩
theorem EnS.nil {c:Cx} {d s:Nat} {x:Sn} {rev:Int} {es:Es} {q:List Pl} (B:Bs es q) (Q:Q8 q):EnS c d s x rev es [] q:=⟨fun _ _=>trivial,B,Q⟩
section
variable {c:Cx} (ok:Ok c) (hG:c.G=G) {d s lr sp st sd ep m:Nat} {T:Hp} {ss:List Sn} {es:Es} {rev n:Int} {x:Sn} {q:List Pl} {xs:List Sp}
include ok hG
theorem EnS.addC {r i:Nat} {tl:List AV} {van:Bool} (S:EnS c (d+9) s x rev es xs q) (hi:i<4) (no:i∉q.map Pl.sp) (hv:cond van (.int x.num) .none=gr i) (hu:x.u≠[42]) (ht:tl.length≤5) (hd:tl ++ crD.drop tl.length=[.str [],.bool van,.bool false,.none,.none]):EnS c (d+9) s x rev es (xs ++ [spC r i tl van x.num]) (q ++ [⟨i,rev+1⟩]):=by
 refine zAAA (bh ⟨i,hi⟩) fun f1 f2 f3 _=>?_
 have oc:=S.B.okAdd (van:=van) (nb:=x.num) S.Q hi no
 refine ⟨fun sf e=>?_,?_,S.Q.add hi no⟩
 ·refine (S.ok sf e).snoc ?_ ?_
  ·rw [e]; exact hY ok hG (aW f1) f2 (by rw [f3]; exact S.B.rO) hu ht hd oc
  ·rw [e]; exact oc
 ·rw [List.map_append,List.foldl_append]
  exact S.B.add S.Q hi hv
theorem EnS.addD {r i:Nat} (S:EnS c (d+8) s x rev es xs q) (hi:i<4) (h:i∈q.map Pl.sp) (hu:x.u≠[42]):EnS c (d+8) s x rev es (xs ++ [spD r i]) (rmN i q):=by
 refine zAAA (bh ⟨i,hi⟩) fun f1 f2 f3 _=>?_
 have oc:=S.B.okDel S.Q hi h
 refine zEA (wK S.B h) fun e1 m1 v1=>?_
 refine ⟨fun sf e=>?_,?_,S.Q.del⟩
 ·refine (S.ok sf e).snoc ?_ ?_
  ·rw [e]; exact mK ok hG (aW f1) (S.B.rP S.Q hi) hu m1 v1 oc
  ·rw [e]; exact oc
 ·rw [List.map_append,List.foldl_append]
  exact S.B.del (r:=rev+1) S.Q hi
theorem sM {sl:Nat} (L:L8 T s lr sp st sd ep ss es m rev) (hm:m<40) (mx:x∈ss) (S:EnS c (d+8) s x rev es xs q) (hx:∀ y∈xs,gd T y) (hsl:T.get sl=some (.list (xs.map Sp.rf))) (l20:xs.length<20) (l0:0<xs.length):CaP c T 653 [.ref s,.int x.num,.ref sl] (d+10) fun v T'=>∃ es',L8 T' s lr sp st sd ep ss es' (m+1) (rev+1)∧Bs es' q∧Upd T.n (K8 s lr sd) T T':=by
 have he:∀ crs:List (Nat × Ch),crs.map (·.2)=xs.map Sp.ch→chE (rev+1) es crs=(xs.map Sp.ch).foldl (cv (rev+1)) es:=fun crs h=>by
  rw [← h,List.foldl_map]; rfl
 refine (pN ok hG (d:=d) S.ok L hm mx hx hsl l20 l0 fun crs h=>by rw [he crs h]; exact S.B.ne).imp fun v T' h=>?_
 refine zEAA h fun crs e L1 u1=>?_
 rw [he crs e] at L1
 exact ⟨_,L1,S.B,u1⟩
end
noncomputable abbrev enS:PS:=(.ite (.not (.meth (.loc 1735222900) 31356359817589866 (.cons (.loc 126883592042095) .nil))) (.cons (.ite (.meth (.attr (.loc 1735222900) 440023414132) 7627369 (.cons (.loc 126883592042095) (.cons (.meth (.loc 1735222900) 465792298592 .nil) .nil))) (.cons (.expr (.meth (.loc 500118746484) 111529134485858 (.cons (.tuple (.cons (.str [100,101,108,101,116,101]) (.cons (.meth (.loc 1735222900) 465792298592 .nil) .nil))) .nil))) .nil) .nil) (.cons (.ite (.cmp .ge (.bin .add (.call (.glb 7300717) (.cons (.meth (.loc 1735222900) 112585763745642 (.cons (.loc 126883592042095) .nil)) .nil)) (.int 1)) (.attr (.loc 1735222900) 504381206628)) (.cons (.expr (.meth (.loc 500118746484) 111529134485858 (.cons (.tuple (.cons (.str [99,114,101,97,116,101]) (.cons (.meth (.loc 1735222900) 465792298592 .nil) .nil))) .nil))) .nil) .nil) .nil)) .nil)
noncomputable abbrev yj:PS:=(.ite (.cmp .ge (.bin .add (.call (.glb 7300717) (.cons (.meth (.loc 1735222900) 112585763745642 (.cons (.loc 126883592042095) .nil)) .nil)) (.int 1)) (.attr (.loc 1735222900) 504381206628)) (.cons (.expr (.meth (.loc 500118746484) 111529134485858 (.cons (.tuple (.cons (.str [99,114,101,97,116,101]) (.cons (.meth (.loc 1735222900) 465792298592 .nil) .nil))) .nil))) .nil) .nil)
structure EnP (c:Cx) (d s lr sp st sd ep m b lo sl:Nat) (ss:List Sn) (es:Es) (rev n:Int) (x:Sn) (T0 T:Hp) (xs:List Sp) (q:List Pl):Prop where
 L:L8 T s lr sp st sd ep ss es m rev
 hb:T.get b=some (gV s n)
 u:Upd lo (K8 s lr sd) T0 T
 lo0:lo≤T0.n
 S:EnS c (d+12) s x rev es xs q
 hx:∀ y∈xs,gd T y
 g:T.get sl=some (.list (xs.map Sp.rf))
 l0:0<xs.length
 los:lo≤sl
 sn:sl≠lr
 s1:1≤sl
section
variable {c:Cx} (ok:Ok c) (hG:c.G=G) {d s lr sp st sd ep m b lo sl i:Nat} {T0 T T1:Hp} {ss:List Sn} {es:Es} {rev n:Int} {x:Sn} {q q1:List Pl} {xs:List Sp} {loc:Loc}
theorem EnP.mono (P:EnP c d s lr sp st sd ep m b lo sl ss es rev n x T0 T xs q) (L:L8 T1 s lr sp st sd ep ss es m rev) (u:Upd T.n (K8 s lr sd) T T1):EnP c d s lr sp st sd ep m b lo sl ss es rev n x T0 T1 xs q:=
 { P with L:=L,hb:=P.L.kb P.hb u,u:=P.u.then u (Nat.le_trans P.lo0 P.u.1),hx:=fun y my=>P.L.ksp (P.hx y my) u,g:=P.L.kl P.sn P.g u }
theorem EnP.app {y:Sp} (P:EnP c d s lr sp st sd ep m b lo sl ss es rev n x T0 T xs q) (hr:y.r=T.n) (hw:jq.any (sq · (.str y.w))=true) (ht:y.tl.length≤8) (S:EnS c (d+12) s x rev es (xs ++ [y]) q1):EnP c d s lr sp st sd ep m b lo sl ss es rev n x T0 (aI (aq T (.tuple y.stp)) sl (.list (xs.map Sp.rf ++ [.ref T.n]))) (xs ++ [y]) q1:=by
 have L1:=P.L.new (T':=aq T (.tuple y.stp)) Upd.refl.new
 have g1:(aq T (.tuple y.stp)).get sl=some (.list (xs.map Sp.rf)):=af P.g
 refine { P with L:=L1.lst g1 P.sn,hb:=an g1 (af P.hb) rfl,u:=(P.u.new).put P.los,S:=S,hx:=fun z mz=>?_,g:=?_,l0:=by rw [List.length_append]; exact Nat.succ_pos _ }
 ·rcases List.mem_append.mp mz with mz | mz
  ·exact ((P.hx z mz).all Upd.refl.new).lst g1
  ·cases List.mem_singleton.mp mz
   exact ⟨an g1 (by rw [hr]; exact ag _ _) rfl,hw,ht⟩
 ·rw [List.map_append,show [y].map Sp.rf=[.ref T.n] by rw [← hr]; rfl]
  exact ac g1
noncomputable abbrev jQ (c:Cx) (d s lr sp st sd ep m b lo sl:Nat) (ss:List Sn) (es:Es) (rev n:Int) (x:Sn) (T0:Hp) (lq:List Nat) (o:Bool) (loc:Loc):Loc→Hp→Prop:=fun l T'=>l=loc∧∃ xs q',EnP c d s lr sp st sd ep m b lo sl ss es rev n x T0 T' xs q'∧xs.length≤3∧lqL q'=lq∧opB q'=o
theorem jj {lq:List Nat} {o:Bool} (h:lqL q=lq ++ [i]) (h2:decide (3∈q.map Pl.sp)=o):opB q=o:=by
 unfold opB
 rw [h,h2,decide_eq_false (List.append_ne_nil_of_right_ne_nil _ (List.cons_ne_nil _ _))]; rfl
include ok hG
theorem qP (P:EnP c d s lr sp st sd ep m b lo sl ss es rev n x T0 T xs q1) (l2:xs.length≤2) (mx:x∈ss) (Q:Q8 q) (B:Bs es q) (hl:lqL q1=lqL q ++ [i]) (no:3∉q1.map Pl.sp) (h1:lk loc 1735222900=some (.ref b)) (h2:lk loc 126883592042095=some (.int x.num)) (h3:lk loc 500118746484=some (.ref sl)):StP c (d+14) loc T yj (jQ c d s lr sp st sd ep m b lo sl ss es rev n x T0 (lqL q ++ [i]) (decide (n≤((lqL q).length:Int)+1)) loc) (fun _ _=>False):=by
 generalize hN:jQ c d s lr sp st sd ep m b lo sl ss es rev n x T0 (lqL q ++ [i]) (decide (n≤((lqL q).length:Int)+1)) loc=N
 have hb:=P.hb
 have us:=P.L.us x mx
 refine zEEAEELA (dL ok hG (d:=d+6) P.L mx Q (.inr B) P.hb) fun T1 r Lx c1 g1 gC0=>?_
 refine zAAAA gC0 fun pm rise L1 u1 _=>?_
 have P1:=P.mono L1 u1
 have hb1:=P1.hb
 have gs1:=P1.g
 have hl1:Lx.length=(lqL q).length:=pm.length_eq
 have hl2:(Lx.map nI).length<4000:=by
  rw [LQ,hl1]
  exact Nat.lt_of_le_of_lt (cY Q) (lb rfl)
 by_cases h:n≤((lqL q).length:Int)+1
 ·obtain ⟨_,T2,c2,rfl,u2⟩:=fV ok hG (d:=d+11) hb1
  have P2:=P1.mono (P1.L.new u2) u2.a
  have gs2:=P2.g
  have P3:=P2.app (y:=spC T2.n 3 [] false x.num) rfl rfl (Nat.zero_le _) (P2.S.addC ok hG (d:=d+3) (Nat.le_refl _) no rfl us (Nat.zero_le _) rfl)
  apply dj
  apply aT
  apply i8
  refine bA ok (tG hG rfl) (by first | exact .inl ⟨_,rfl⟩ | exact .inr ⟨_,rfl⟩) ?_
  apply aA
  apply cD ok
  exact (by trivial)
  ·trivial
  exact tM hG rfl
  exact rfl
  refine aC (by trivial) ?_
  apply au
  refine bK (c1) ?_
  apply au
  refine eF (eg g1 hl2) ?_
  apply bw
  refine n9 (cE) ?_
  apply cx ok
  exact (by trivial)
  ·trivial
  exact tA hG rfl
  exact rfl
  refine bE true (cmt w7 (decide_eq_true (by rw [LQ,hl1]; exact h))) ?_
  refine aV (bH (aj (by trivial)) ((dq (by (trivial)))) (ai (bW (ai aQ (ai (bp ok (by trivial) (by trivial) (by exact tM hG rfl) (by exact rfl) ae (c2)) ae)) (lb rfl)) ae) (dw (af gs2) (by rw [LQ]; exact lt4 l2 rfl) P.s1)) ?_
  apply ax
  subst hN
  refine ⟨rfl,_,_,P3,by rw [List.length_append]; exact Nat.succ_le_succ l2,pA.trans hl,?_⟩
  refine jj (pA.trans hl) ?_
  rw [decide_eq_true h,decide_eq_true (iF.mpr (.inr rfl))]
 ·skip
  apply dj
  apply aT
  apply i8
  refine bA ok (tG hG rfl) (by first | exact .inl ⟨_,rfl⟩ | exact .inr ⟨_,rfl⟩) ?_
  apply aA
  apply cD ok
  exact (by trivial)
  ·trivial
  exact tM hG rfl
  exact rfl
  refine aC (by trivial) ?_
  apply au
  refine bK (c1) ?_
  apply au
  refine eF (eg g1 hl2) ?_
  apply bw
  refine n9 (cE) ?_
  apply cx ok
  exact (by trivial)
  ·trivial
  exact tA hG rfl
  exact rfl
  refine bE false (cmt w7 (decide_eq_false (by rw [LQ,hl1]; exact h))) ?_
  apply ax
  subst hN
  refine ⟨rfl,_,_,P1,Nat.le_succ_of_le l2,hl,jj hl ?_⟩
  rw [decide_eq_false h,decide_eq_false no]
end
theorem StP.imp {c:Cx} {d:Nat} {loc:Loc} {T:Hp} {b:PS} {N N':Loc→Hp→Prop} {R R':AV→Hp→Prop} (h:StP c d loc T b N R) (k:∀ l T,N l T→N' l T) (k2:∀ v T,R v T→R' v T):StP c d loc T b N' R':=by
 rcases h with ⟨l,T',h,n⟩ | ⟨v,T',h,n⟩
 ·exact .inl ⟨l,T',h,k l T' n⟩
 ·exact .inr ⟨v,T',h,k2 v T' n⟩
theorem ExP.imp {c:Cx} {d:Nat} {loc:Loc} {T:Hp} {b:PSs} {N N':Loc→Hp→Prop} {R R':AV→Hp→Prop} (h:ExP c d loc T b N R) (k:∀ l T,N l T→N' l T) (k2:∀ v T,R v T→R' v T):ExP c d loc T b N' R':=by
 rcases h with ⟨l,T',h,n⟩ | ⟨v,T',h,n⟩
 ·exact .inl ⟨l,T',h,k l T' n⟩
 ·exact .inr ⟨v,T',h,k2 v T' n⟩
noncomputable def enB (n:Int) (q:List Pl):Bool:=opB q || decide (n≤((lqL q).length:Int)+1)
section
variable {c:Cx} (ok:Ok c) (hG:c.G=G) {d s lr sp st sd ep m b lo sl i r0:Nat} {T:Hp} {ss:List Sn} {es:Es} {rev n:Int} {x:Sn} {q:List Pl} {loc:Loc}
include ok hG
theorem vS (P:EnP c d s lr sp st sd ep m b lo sl ss es rev n x T T [spC r0 i [.str [],.bool true] true x.num] (q ++ [⟨i,rev+1⟩])) (mx:x∈ss) (Q:Q8 q) (B:Bs es q) (i3:i<3) (h1:lk loc 1735222900=some (.ref b)) (h2:lk loc 126883592042095=some (.int x.num)) (h3:lk loc 500118746484=some (.ref sl)):StP c (d+14) loc T enS (jQ c d s lr sp st sd ep m b lo sl ss es rev n x T (lqL q ++ [i]) (enB n q) loc) (fun _ _=>False):=by
 generalize hN:jQ c d s lr sp st sd ep m b lo sl ss es rev n x T (lqL q ++ [i]) (enB n q) loc=N
 have hb:=P.hb
 have us:=P.L.us x mx
 refine zEEALA (dn ok hG (d:=d+5) P.L mx Q (.inr B) P.hb) fun T1 c1 L1 u1=>?_
 have P1:=P.mono L1 u1
 have hb1:=P1.hb
 have gs1:=P1.g
 have hl1:=wP (q:=q) (r:=rev+1) i3
 cases ho:opB q with
 | true=>
  rw [ho] at c1
  apply dj
  apply fJ
  refine bS rfl ?_
  apply cD ok
  exact (by trivial)
  ·trivial
  exact tM hG rfl
  exact rfl
  refine aC (by trivial) ?_
  apply au
  refine bK (c1) ?_
  apply eG
  apply ax
  subst hN
  refine ⟨rfl,_,_,P1,lb rfl,hl1,jj hl1 ?_⟩
  have h3m:3∈q.map Pl.sp:=by
   unfold opB at ho
   exact of_decide_eq_true (Bool.and_eq_true_iff.mp ho).2
  rw [decide_eq_true (iF.mpr (.inl h3m))]
  unfold enB; rw [ho]; rfl
 | false=>
  rw [ho] at c1
  have eb:enB n q=decide (n≤((lqL q).length:Int)+1):=by unfold enB; rw [ho]; rfl
  rw [eb] at hN
  refine gp fun gP gH=>?_
  refine zEEAL (fV ok hG (d:=d+11) hb1) fun T2 c2 u2=>?_
  have P2:=P1.mono (P1.L.new u2) u2.a
  refine zEEA (id P1.L.X) fun sf1 rows1 X1 _=>?_
  have hs1:=X1.hs
  refine zEEA (id P2.L.X) fun sf2 rows2 X2 _=>?_
  have hs2:=X2.hs
  refine zEEALA (qL ok hG (d:=d+7) (i:=3) P2.L mx Q B (Nat.le_refl _)) fun T3 c3 L3 u3=>?_
  apply gH;clear gH
  have P3:=P2.mono L3 u3
  have hb3:=P3.hb
  have gs3:=P3.g
  have n3:(3:Nat)≠i:=fun e=>Nat.lt_irrefl 3 (e▸i3:3<3)
  by_cases h3m:3∈q.map Pl.sp
  ·rw [decide_eq_true h3m] at c3
   refine zEEAL (fV ok hG (d:=d+11) hb3) fun T4 c4 u4=>?_
   have P4:=P3.mono (P3.L.new u4) u4.a
   have gs4:=P4.g
   have P5:=P4.app (y:=spD T4.n 3) rfl rfl (Nat.zero_le _) (P4.S.addD ok hG (d:=d+4) (Nat.le_refl _) (iF.mpr (.inl h3m)) us)
   have e5:=nD.trans hl1
   have en:=qP ok hG (d:=d) (loc:=loc) P5 (Nat.le_refl _) mx Q B e5 (fun h=>(kT.mp h).2 rfl) h1 h2 h3
   rw [hN] at en
   apply dj
   apply fJ
   refine bS rfl ?_
   apply cD ok
   exact (by trivial)
   ·trivial
   exact tM hG rfl
   exact rfl
   refine aC (by trivial) ?_
   apply au
   refine bK (c1) ?_
   apply eG
   refine bF (bj (t:=true) rfl (dN ok (aO ok (by trivial) (by trivial) (by exact tA hG rfl) (by exact rfl)) (by trivial) (by exact tM hG rfl) (by exact rfl) (ah (by trivial) (ai (bp ok (by trivial) (by trivial) (by exact tM hG rfl) (by exact rfl) ae (c2)) ae)) (c3))) ?_
   refine aV (bH (aj (by trivial)) (dq gs3) (ai (bW (ai aQ (ai (bp ok (by trivial) (by trivial) (by exact tM hG rfl) (by exact rfl) ae (c4)) ae)) (lb rfl)) ae) (dw (af gs4) (lb rfl) P.s1)) ?_
   apply ax
   apply am
   refine StP.imp (en) (fun lx Tx hx9=>?_) (fun _ _ f=>f.elim)
   apply ax
   exact hx9
  ·rw [decide_eq_false h3m] at c3
   have en:=qP ok hG (d:=d) (loc:=loc) P3 (lb rfl) mx Q B hl1 (fun h=>(iF.mp h).elim h3m n3) h1 h2 h3
   rw [hN] at en
   apply dj
   apply fJ
   refine bS rfl ?_
   apply cD ok
   exact (by trivial)
   ·trivial
   exact tM hG rfl
   exact rfl
   refine aC (by trivial) ?_
   apply au
   refine bK (c1) ?_
   apply eG
   refine aL (bj (t:=false) rfl (dN ok (aO ok (by trivial) (by trivial) (by exact tA hG rfl) (by exact rfl)) (by trivial) (by exact tM hG rfl) (by exact rfl) (ah (by trivial) (ai (bp ok (by trivial) (by trivial) (by exact tM hG rfl) (by exact rfl) ae (c2)) ae)) (c3))) ?_
   apply am
   refine StP.imp (en) (fun lx Tx hx9=>?_) (fun _ _ f=>f.elim)
   apply ax
   exact hx9
theorem rh (L:L8 T s lr sp st sd ep ss es m rev) (hm:m<30) (mx:x∈ss) (hx:x.num=nI i) (i3:i<3) (Q:Q8 q) (W:WS es q) (hb:T.get b=some (gV s n)):CaP c T 778 [.ref b,.int x.num] (d+15) fun v T'=>∃ es' m' rev' q',L8 T' s lr sp st sd ep ss es' m' rev'∧m'≤m+3∧Bs es' q'∧Q8 q'∧Upd T.n (K8 s lr sd) T T'∧((i∈q.map Pl.sp∧q'=q)∨(i∉q.map Pl.sp∧lqL q'=lqL q ++ [i]∧opB q'=enB n q)):=by
 refine gp fun gP gH=>?_
 refine zAAAAAA (bh ⟨i,Nat.lt_succ_of_lt i3⟩) fun f1 f2 f3 f4 f5 f6 gC0=>?_
 refine zA gC0 fun f7 f8=>?_
 have iff:=kI ⟨i,i3⟩
 refine zEEAEEE (uA ok hG (d:=d) L hm mx Q W) fun v1 T1 c1 es1 m1 rev1 gC0=>?_
 refine zAAA gC0 fun L1 hm1 B1 u1=>?_
 apply gH;clear gH
 have hb1:=L.kb hb u1
 have bs:∀ {T:Hp} {d:Nat},Bc c (.typ .str) [.int x.num] d T (.str (bL (i+2))) T:=by
  intro T d
  rw [hx]; exact kR (Nat.lt_of_lt_of_le (Nat.add_lt_add_right i3 2) (lb rfl))
 have ba:∀ {T:Hp},Bi c .add (.str sIn) (.str (bL (i+2))) T (.str (nmI i)) T:=by
  intro T
  rw [← iff]; exact fO (lt4 (Nat.add_le_add_left (show (bL (i+2)).length≤2 from iJ.1) 3) rfl)
 refine zEEAL (iA ok hG (d:=d+12) (T:=T1) (p:=pO) (q:=nmI i) ay.2.2.2.2.1 (aW f1) (lb rfl) (Nat.le_trans f7 (lb rfl))) fun T2 c2 u2=>?_
 have hb2:=u2.get trivial hb1
 have L2:=L1.new u2
 refine zEEA (id L2.X) fun sf2 rows2 X2 _=>?_
 have hs2:=X2.hs
 refine zEEALA (qL ok hG (d:=d+7) (i:=i) L2 mx Q B1 (Nat.lt_succ_of_lt i3)) fun T3 c3 L3 u3=>?_
 have hb3:=L2.kb hb2 u3
 have c3:Ca c 601 [.ref s,.int x.num,.str (pO ++ [47] ++ nmI i)] (d+14) T2 _ T3:=c3
 have u03:Upd T.n (K8 s lr sd) T T3:=(u1.then u2.a u1.1).then u3 (Nat.le_trans u1.1 u2.1)
 by_cases hi:i∈q.map Pl.sp
 ·rw [decide_eq_true hi] at c3
  refine zEEALA (dn ok hG (d:=d+5) L3 mx Q (.inr B1) hb3) fun T4 c4 L4 u4=>?_
  refine aH ok (l:=[(1735222900,_),(126883592042095,_)]) (tF hG rfl) rfl fun Qz hQ=>?_
  refine aV (aS ok (tG hG rfl) (tF hG rfl) (ai (aO ok rfl (by trivial) (by exact tA hG rfl) (by exact rfl)) (ah rfl (ai (aO ok rfl (by trivial) (by exact tA hG rfl) (by exact rfl)) ae))) (c1)) ?_
  refine aR (aS ok (tG hG rfl) (tF hG rfl) (ai (aO ok rfl (by trivial) (by exact tA hG rfl) (by exact rfl)) (ai (bB aQ (aN ok (tG hG rfl) (.inr ⟨_,rfl⟩) (ah rfl ae) (bs)) (ba)) ae)) (c2)) ?_
  refine bF (bj (t:=true) rfl (dN ok (aO ok rfl (by trivial) (by exact tA hG rfl) (by exact rfl)) (by trivial) (by exact tM hG rfl) (by exact rfl) (ah rfl (ah rfl ae)) (c3))) ?_
  refine aK (bp ok rfl (by trivial) (by exact tM hG rfl) (by exact rfl) (ah rfl ae) (c4)) ?_
  apply hQ
  exact ⟨_,_,_,q,L4,Nat.le_succ_of_le hm1,B1,Q,u03.then u4 u03.1,.inl ⟨hi,rfl⟩⟩
 ·rw [decide_eq_false hi] at c3
  have L5:=L3.new (T':=aq (aq T3 (.tuple [.str [99,114,101,97,116,101],.str (pth i),.str [],.bool true])) (.list [.ref T3.n])) Upd.refl.new.new
  have P:EnP c d s lr sp st sd ep m1 b T3.n (T3.n+1) ss es1 rev1 n x (aq (aq T3 (.tuple [.str [99,114,101,97,116,101],.str (pth i),.str [],.bool true])) (.list [.ref T3.n])) (aq (aq T3 (.tuple [.str [99,114,101,97,116,101],.str (pth i),.str [],.bool true])) (.list [.ref T3.n])) [spC T3.n i [.str [],.bool true] true x.num] (q ++ [⟨i,rev1+1⟩]):=by
   refine ⟨L5,af (af hb3),Upd.refl,Nat.le_add_right _ 2,?_,fun y my=>?_,ag _ _,Nat.zero_lt_one,Nat.le_succ _,Nat.ne_of_gt (Nat.lt_succ_of_lt (jV L3)),Nat.le_add_left _ _⟩
   ·refine (EnS.nil B1 Q).addC ok hG (d:=d+3) (Nat.lt_succ_of_lt i3) hi ?_ (L.us x mx) (lb rfl) rfl
    show AV.int x.num=gr i
    unfold gr
    rw [show Nat.blt i 3=true from Nat.ble_eq_true_of_le i3,hx]; rfl
   ·cases List.mem_singleton.mp my
    exact ⟨af (ag _ _),rfl,lb rfl⟩
  have en:=fun loc h1 h2 h3=>vS ok hG (d:=d) (loc:=loc) P mx Q B1 i3 h1 h2 h3
  refine aH ok (l:=[(1735222900,_),(126883592042095,_)]) (tF hG rfl) rfl fun Qz hQ=>?_
  refine aV (aS ok (tG hG rfl) (tF hG rfl) (ai (aO ok rfl (by trivial) (by exact tA hG rfl) (by exact rfl)) (ah rfl (ai (aO ok rfl (by trivial) (by exact tA hG rfl) (by exact rfl)) ae))) (c1)) ?_
  refine aR (aS ok (tG hG rfl) (tF hG rfl) (ai (aO ok rfl (by trivial) (by exact tA hG rfl) (by exact rfl)) (ai (bB aQ (aN ok (tG hG rfl) (.inr ⟨_,rfl⟩) (ah rfl ae) (bs)) (ba)) ae)) (c2)) ?_
  refine aL (bj (t:=false) rfl (dN ok (aO ok rfl (by trivial) (by exact tA hG rfl) (by exact rfl)) (by trivial) (by exact tM hG rfl) (by exact rfl) (ah rfl (ah rfl ae)) (c3))) ?_
  apply am
  apply fT
  apply d5
  apply aA
  apply cJ
  apply aA
  apply aY
  refine aC rfl ?_
  apply aA
  apply aY
  apply aA
  apply oh
  apply au
  refine d0 (lb rfl) ?_
  apply au
  refine d0 (lb rfl) ?_
  apply am
  refine StP.imp (en _ rfl rfl rfl) (fun lx Tx hx9=>?_) (fun _ _ f=>f.elim)
  refine gp fun gP gH=>?_
  refine zAEEAAA hx9 fun gR0 xs q' P' l3 hl ho=>?_
  subst gR0
  refine zEEAEAA (sM ok hG (d:=d+4) P'.L (Nat.lt_of_le_of_lt hm1 (Nat.lt_trans (Nat.add_lt_add_right hm 2) (lb rfl))) mx P'.S P'.hx P'.g (Nat.lt_of_le_of_lt l3 (lb rfl)) P'.l0) fun v8 T8 c8 es8 L8' B8 u8=>?_
  have hb8:=P'.L.kb P'.hb u8
  have hbx:=P'.hb
  refine zEEA (id P'.L.X) fun sfx rowsx Xx _=>?_
  have hsx:=Xx.hs
  refine zEEALA (dn ok hG (d:=d+5) L8' mx P'.S.Q (.inr B8) hb8) fun T9 c9 L9 u9=>?_
  apply gH;clear gH
  refine aV (dN ok (aO ok rfl (by trivial) (by exact tA hG rfl) (by exact rfl)) (by trivial) (by exact tM hG rfl) (by exact rfl) (ah rfl (ah rfl ae)) (c8)) ?_
  refine aK (bp ok rfl (by trivial) (by exact tM hG rfl) (by exact rfl) (ah rfl ae) (c9)) ?_
  apply hQ
  have ua:Upd T.n (K8 s lr sd) T Tx:=(u03.new.new).trans (P'.u.weak u03.1 fun _ _ p=>p)
  exact ⟨_,_,_,q',L9,Nat.succ_le_succ hm1,B8,P'.S.Q,(ua.then u8 ua.1).then u9 (Nat.le_trans ua.1 u8.1),.inr ⟨hi,hl,ho⟩⟩
end
noncomputable abbrev lvS:PS:=(.ite (.and (.cons (.cmp .eq (.meth (.loc 1735222900) 112585763745642 (.cons (.loc 126883592042095) .nil)) (.list (.cons (.loc 126883592042095) .nil))) (.cons (.meth (.loc 1735222900) 31356359817589866 (.cons (.loc 126883592042095) .nil)) .nil))) (.cons (.expr (.meth (.loc 500118746484) 111529134485858 (.cons (.tuple (.cons (.str [100,101,108,101,116,101]) (.cons (.meth (.loc 1735222900) 465792298592 .nil) .nil))) .nil))) .nil) .nil)
theorem ym:Rch cS pO:=by
 have nB:pB∉cS.map (·.1):=show pB∉[[47]] by decide +kernel
 have nO:pO∉cS.map (·.1):=show pO∉[[47]] by decide +kernel
 refine .up (aW ay.1) ay.2.2.2.2.1 (.inl nO) ?_
 rw [ay.2.2.1]
 refine .up (aW ay.2.1) ay.2.2.2.2.2.1 (.inl nB) ?_
 rw [ay.2.2.2.1]
 exact .here (.head _) rfl
theorem ot {q:List Pl} {i:Nat} (h:i<3):opB (rmN i q)=(opB q && !decide (lqL (rmN i q)=[])):=by
 have e3:decide (3∈(rmN i q).map Pl.sp)=decide (3∈q.map Pl.sp):=decide_eq_decide.mpr ⟨fun m=>(kT.mp m).1,fun m=>kT.mpr ⟨m,fun e=>Nat.lt_irrefl 3 (e▸h:3<3)⟩⟩
 unfold opB
 rw [e3]
 by_cases z:lqL q=[]
 ·have:lqL (rmN i q)=[]:=by rw [ji,z]; rfl
  rw [decide_eq_true z,decide_eq_true this]; rfl
 ·rw [decide_eq_false z]
  cases decide (lqL (rmN i q)=[]) <;> cases decide (3∈q.map Pl.sp) <;> rfl
section
variable {c:Cx} (ok:Ok c) (hG:c.G=G) {d s lr sp st sd ep m b i:Nat} {T:Hp} {ss:List Sn} {es:Es} {rev n:Int} {x:Sn} {q:List Pl}
include ok hG
theorem yy (L:L8 T s lr sp st sd ep ss es m rev) (mx:x∈ss) (Q:Q8 q) (W:WS es q) (hi:i<4):CaP c T 601 [.ref s,.int x.num,.str (pth i)] (d+7) fun v T'=>v=.bool (decide (i∈q.map Pl.sp))∧L8 T' s lr sp st sd ep ss es m rev∧Upd T.n (K8 s lr sd) T T':=by
 rcases W with ⟨rfl,rfl⟩ | B
 ·obtain ⟨f1,f2,f3,_⟩:=bh ⟨i,hi⟩
  have no:pth i∉cS.map (·.1):=fun h=>f2 (List.mem_singleton.mp h)
  exact p9 ok hG (b:=false) L mx (aW f1) (.up (aW f1) f2 (.inl no) (by rw [f3]; exact ym)) (.inr ⟨rfl,no⟩)
 ·exact qL ok hG L mx Q B hi
theorem oH (hx:x.num=nI i) (i3:i<3):(∀ {T:Hp} {d:Nat},Bc c (.typ .str) [.int x.num] d T (.str (bL (i+2))) T)∧(∀ {T:Hp},Bi c .add (.str sIn) (.str (bL (i+2))) T (.str (nmI i)) T)∧(∀ (T:Hp) (d:Nat),CaP c T 124 [.str pO,.str (nmI i)] (d+2) fun u T'=>u=.str (pth i)∧Upd T.n All T T'):=by
 refine zAAAAAA (bh ⟨i,Nat.lt_succ_of_lt i3⟩) fun f1 f2 f3 f4 f5 f6 gC0=>?_
 refine zA gC0 fun f7 f8=>?_
 have iff:=kI ⟨i,i3⟩
 refine ⟨fun {T d}=>?_,fun {T}=>?_,fun T d=>?_⟩
 ·rw [hx]; exact kR (Nat.lt_of_lt_of_le (Nat.add_lt_add_right i3 2) (lb rfl))
 ·rw [← iff]; exact fO (lt4 (Nat.add_le_add_left (show (bL (i+2)).length≤2 from iJ.1) 3) rfl)
 ·exact iA ok hG ay.2.2.2.2.1 (aW f1) (lb rfl) (Nat.le_trans f7 (lb rfl))
theorem to (xo:jG c 48 48) (L:L8 T s lr sp st sd ep ss es m rev) (mx:x∈ss) (hx:x.num=nI i) (i3:i<3) (Q:Q8 q) (W:WS es q) (hb:T.get b=some (gV s n)) (no:i∉q.map Pl.sp):lO c T 792 [.ref b,.int x.num] (d+15) fun r T'=>T'.get r=some (.exc 48 [(d6,.str [110,111,116,32,105,110,115,105,100,101]),(fE,.int x.num)])∧L8 T' s lr sp st sd ep ss es m rev∧Upd T.n (K8 s lr sd) T T':=by
 refine gp fun gP gH=>?_
 refine zAA (oH (x:=x) ok hG hx i3) fun bs ba jo=>?_
 refine zEEAL (jo T (d+12)) fun T2 c2 u2=>?_
 have hb2:=u2.get trivial hb
 have L2:=L.new u2
 refine zEEA (id L2.X) fun sf2 rows2 X2 _=>?_
 have hs2:=X2.hs
 refine zEEALA (yy ok hG (d:=d+7) L2 mx Q W (Nat.lt_succ_of_lt i3)) fun T3 c3 L3 u3=>?_
 apply gH;clear gH
 rw [decide_eq_false no] at c3
 have n3:=L3.pn
 have u03:Upd T.n (K8 s lr sd) T T3:=u2.a.then u3 u2.1
 refine uJ ok (l:=[(1735222900,_),(126883592042095,_)]) (tF hG rfl) rfl fun lz hz Qz hQ=>?_
 have hz0:=hz 1735222900 _ rfl
 have hz1:=hz 126883592042095 _ rfl
 clear hz
 apply qw
 apply fT
 refine cX ok (tG hG rfl) (tF hG rfl) ?_
 apply aA
 apply cx ok
 exact (by trivial)
 ·trivial
 exact tA hG rfl
 exact rfl
 apply aA
 apply i8
 apply aY
 refine bA ok (tG hG rfl) (by first | exact .inl ⟨_,rfl⟩ | exact .inr ⟨_,rfl⟩) ?_
 refine aC (by trivial) ?_
 apply au
 refine eF (bs) ?_
 refine n9 (ba) ?_
 apply au
 refine bK (c2) ?_
 apply eA
 apply nz
 apply fJ
 refine bS rfl ?_
 apply gY ok
 apply cx ok
 exact (by exact aa rfl ‹_›)
 ·trivial
 exact tA hG rfl
 exact rfl
 apply iQ
 ·trivial
 exact tM hG rfl
 exact rfl
 refine aC (by exact aa rfl ‹_›) ?_
 refine aC (by exact ak) ?_
 apply au
 refine bK (c3) ?_
 apply eG
 apply eA
 refine pJ ok xo (tG hG rfl) ?_
 apply aA
 apply aY
 refine aC (by exact aa rfl ‹_›) ?_
 apply au
 refine yn (n3) ?_
 apply hQ
 exact ⟨ag _ _,L3.new Upd.refl.new,u03.new⟩
theorem xj {r0 lo sl:Nat} {loc:Loc} (P:EnP c d s lr sp st sd ep m b lo sl ss es rev n x T T [spD r0 i] (rmN i q)) (mx:x∈ss) (hx:x.num=nI i) (i3:i<3) (Q:Q8 q) (B:Bs es q) (hi:i∈q.map Pl.sp) (h1:lk loc 1735222900=some (.ref b)) (h2:lk loc 126883592042095=some (.int x.num)) (h3:lk loc 500118746484=some (.ref sl)):StP c (d+14) loc T lvS (jQ c d s lr sp st sd ep m b lo sl ss es rev n x T (lqL (rmN i q)) (opB q && !decide (lqL (rmN i q)=[])) loc) (fun _ _=>False):=by
 generalize hN:jQ c d s lr sp st sd ep m b lo sl ss es rev n x T (lqL (rmN i q)) (opB q && !decide (lqL (rmN i q)=[])) loc=N
 have us:=P.L.us x mx
 refine zEEAEELA (dL ok hG (d:=d+6) P.L mx Q (.inr B) P.hb) fun T5 r5 Lx c5 g5 gC0=>?_
 refine zAAAA gC0 fun pm rise L5 u5 _=>?_
 have P5:=P.mono L5 u5
 have P6:=P5.mono (P5.L.new (T':=aq T5 (.list [.int x.num])) Upd.refl.new) Upd.refl.new
 have hb4:=P.hb
 have hb6:=P6.hb
 have g56:=af (o:=.list [.int x.num]) g5
 by_cases h:Lx.map nI=[x.num]
 ·have e0:lqL (rmN i q)=[]:=by
   have l1:Lx.length=1:=by rw [← LQ (f:=nI),h]; rfl
   refine zE (List.length_eq_one_iff.mp (show (lqL q).length=1 from pm.length_eq▸l1)) fun a ha=>?_
   have iv:=iE i3 hi
   rw [ha] at iv
   rw [ji,ha,← List.mem_singleton.mp iv]
   exact List.filter_cons_of_neg (by rw [decide_eq_true rfl]; exact Bool.false_ne_true)
  refine zEEALA (dn ok hG (d:=d+5) P6.L mx Q (.inr B) P6.hb) fun T7 c7 L7 u7=>?_
  have P7:=P6.mono L7 u7
  have hb7:=P7.hb
  have gs7:=P7.g
  cases ho:opB q with
  | true=>
   rw [ho] at c7
   have h3m:3∈q.map Pl.sp:=by
    unfold opB at ho
    exact of_decide_eq_true (Bool.and_eq_true_iff.mp ho).2
   refine zEEAL (fV ok hG (d:=d+11) hb7) fun T8 c8 u8=>?_
   have P8:=P7.mono (P7.L.new u8) u8.a
   have gs8:=P8.g
   have P9:=P8.app (y:=spD T8.n 3) rfl rfl (Nat.zero_le _) (P8.S.addD ok hG (d:=d+4) (Nat.le_refl _) (kT.mpr ⟨h3m,fun e=>Nat.lt_irrefl 3 (e▸i3:3<3)⟩) us)
   apply dj
   apply fR
   apply cu
   apply aT
   apply cD ok
   exact (by trivial)
   ·trivial
   exact tM hG rfl
   exact rfl
   refine aC (by trivial) ?_
   apply au
   refine bK (c5) ?_
   apply d5
   refine aC (by trivial) ?_
   apply au
   refine d0 (lb rfl) ?_
   refine bE true (cmt (ph (ys:=[x.num]) g56 (ag _ _)) (decide_eq_true h)) ?_
   apply bd
   apply cu
   refine bS rfl ?_
   apply cD ok
   exact (by trivial)
   ·trivial
   exact tM hG rfl
   exact rfl
   refine aC (by trivial) ?_
   apply au
   refine bK (c7) ?_
   apply eG
   apply bd
   apply gq
   refine aV (bH (aj (by trivial)) (dq gs7) (ai (bW (ai aQ (ai (bp ok (by trivial) (by trivial) (by exact tM hG rfl) (by exact rfl) ae (c8)) ae)) (lb rfl)) ae) (dw (af gs8) (lb rfl) P.s1)) ?_
   apply ax
   subst hN
   have z:lqL (rmN 3 (rmN i q))=[]:=nD.trans e0
   refine ⟨rfl,_,_,P9,lb rfl,nD,?_⟩
   unfold opB
   rw [decide_eq_true z,decide_eq_true e0,Bool.not_true,Bool.and_false]; rfl
  | false=>
   rw [ho] at c7
   apply dj
   apply fR
   apply cu
   apply aT
   apply cD ok
   exact (by trivial)
   ·trivial
   exact tM hG rfl
   exact rfl
   refine aC (by trivial) ?_
   apply au
   refine bK (c5) ?_
   apply d5
   refine aC (by trivial) ?_
   apply au
   refine d0 (lb rfl) ?_
   refine bE true (cmt (ph (ys:=[x.num]) g56 (ag _ _)) (decide_eq_true h)) ?_
   apply bd
   apply dO
   refine bS rfl ?_
   apply cD ok
   exact (by trivial)
   ·trivial
   exact tM hG rfl
   exact rfl
   refine aC (by trivial) ?_
   apply au
   refine bK (c7) ?_
   apply eG
   apply bd
   apply ax
   subst hN
   exact ⟨rfl,_,_,P7,lb rfl,rfl,ot i3⟩
 ·skip
  apply dj
  apply fR
  apply dO
  apply aT
  apply cD ok
  exact (by trivial)
  ·trivial
  exact tM hG rfl
  exact rfl
  refine aC (by trivial) ?_
  apply au
  refine bK (c5) ?_
  apply d5
  refine aC (by trivial) ?_
  apply au
  refine d0 (lb rfl) ?_
  refine bE false (cmt (ph (ys:=[x.num]) g56 (ag _ _)) (decide_eq_false h)) ?_
  apply bd
  apply ax
  subst hN
  exact ⟨rfl,_,_,P6,lb rfl,rfl,ot i3⟩
theorem sJ (L:L8 T s lr sp st sd ep ss es m rev) (hm:m<30) (mx:x∈ss) (hx:x.num=nI i) (i3:i<3) (Q:Q8 q) (B:Bs es q) (hb:T.get b=some (gV s n)) (hi:i∈q.map Pl.sp):CaP c T 792 [.ref b,.int x.num] (d+15) fun v T'=>∃ es' q',L8 T' s lr sp st sd ep ss es' (m+1) (rev+1)∧Bs es' q'∧Q8 q'∧Upd T.n (K8 s lr sd) T T'∧lqL q'=lqL (rmN i q)∧opB q'=(opB q && !decide (lqL (rmN i q)=[])):=by
 refine gp fun gP gH=>?_
 refine zAA (oH (x:=x) ok hG hx i3) fun bs ba jo=>?_
 refine zEEAL (jo T (d+12)) fun T2 c2 u2=>?_
 have hb2:=u2.get trivial hb
 have L2:=L.new u2
 refine zEEA (id L2.X) fun sf2 rows2 X2 _=>?_
 have hs2:=X2.hs
 refine zEEALA (qL ok hG (d:=d+7) L2 mx Q B (Nat.lt_succ_of_lt i3)) fun T3 c3 L3 u3=>?_
 apply gH;clear gH
 rw [decide_eq_true hi] at c3
 have hb3:=L2.kb hb2 u3
 have u03:Upd T.n (K8 s lr sd) T T3:=u2.a.then u3 u2.1
 have L4:=L3.new (T':=aq (aq T3 (.tuple [.str [100,101,108,101,116,101],.str (pth i)])) (.list [.ref T3.n])) Upd.refl.new.new
 have P:EnP c d s lr sp st sd ep m b T3.n (T3.n+1) ss es rev n x (aq (aq T3 (.tuple [.str [100,101,108,101,116,101],.str (pth i)])) (.list [.ref T3.n])) (aq (aq T3 (.tuple [.str [100,101,108,101,116,101],.str (pth i)])) (.list [.ref T3.n])) [spD T3.n i] (rmN i q):=by
  refine ⟨L4,af (af hb3),Upd.refl,Nat.le_add_right _ 2,?_,fun y my=>?_,ag _ _,Nat.zero_lt_one,Nat.le_succ _,Nat.ne_of_gt (Nat.lt_succ_of_lt (jV L3)),Nat.le_add_left _ _⟩
  ·exact (EnS.nil B Q).addD ok hG (d:=d+4) (Nat.lt_succ_of_lt i3) hi (L.us x mx)
  ·cases List.mem_singleton.mp my
   exact ⟨af (ag _ _),rfl,lb rfl⟩
 refine aH ok (l:=[(1735222900,_),(126883592042095,_)]) (tF hG rfl) rfl fun Qz hQ=>?_
 refine aR (aS ok (tG hG rfl) (tF hG rfl) (ai (aO ok rfl (by trivial) (by exact tA hG rfl) (by exact rfl)) (ai (bB aQ (aN ok (tG hG rfl) (.inr ⟨_,rfl⟩) (ah rfl ae) (bs)) (ba)) ae)) (c2)) ?_
 refine aL (fU (t:=true) (bj (t:=true) rfl (dN ok (aO ok rfl (by trivial) (by exact tA hG rfl) (by exact rfl)) (by trivial) (by exact tM hG rfl) (by exact rfl) (ah rfl (ah rfl ae)) (c3)))) ?_
 apply am
 apply fT
 apply d5
 apply aA
 apply cJ
 apply aA
 apply aY
 refine aC rfl ?_
 apply au
 refine d0 (lb rfl) ?_
 apply au
 refine d0 (lb rfl) ?_
 apply am
 refine StP.imp (xj ok hG P mx hx i3 Q B hi rfl rfl rfl) (fun lx Tx hx9=>?_) (fun _ _ f=>f.elim)
 refine zAEEAAA hx9 fun gR0 xs q' P' l3 hl ho=>?_
 subst gR0
 refine zEEAEAA (sM ok hG (d:=d+4) P'.L (Nat.lt_trans hm (lb rfl)) mx P'.S P'.hx P'.g (Nat.lt_of_le_of_lt l3 (lb rfl)) P'.l0) fun v8 T8 c8 es8 L8' B8 u8=>?_
 have hbx:=P'.hb
 refine zEEA (id P'.L.X) fun sfx rowsx Xx _=>?_
 have hsx:=Xx.hs
 refine aV (dN ok (aO ok rfl (by trivial) (by exact tA hG rfl) (by exact rfl)) (by trivial) (by exact tM hG rfl) (by exact rfl) (ah rfl (ah rfl ae)) (c8)) ?_
 apply ax
 apply hQ
 have ua:=(u03.new.new).trans (P'.u.weak u03.1 fun _ _ p=>p)
 exact ⟨_,_,L8',B8,P'.S.Q,ua.then u8 ua.1,hl,ho⟩
end
section
variable {c:Cx} (ok:Ok c) (hG:c.G=G) {d s lr sp st lo t cl cr:Nat} {T T0:Hp} {es es':Es} {sf:SF} {rows:List Rn}
include ok hG
theorem pL {ch:Ch} (X:aM T0 s lr sp st sf rows es) (sz:rows.length<49) (u0:Upd T0.n All T0 T) (tr:aB T T0.n t es) (hc:T.get cl=some (.list [.ref cr])) (hch:dX T cr ch) (hk:okC es ch) (l1:1≤T0.n):CaP c T 566 [.ref s,.ref t,.ref cl] (d+6) fun v T'=>v=.none∧∃ row:Rn,aM T' s lr sp st { sf with tree:=t,rev:=sf.rev+1 } (rows ++ [row]) (cv (sf.rev+1) es ch)∧Upd T0.n (fun r _=>r≠s∧r≠lr) T0 T':=by
 refine gp fun gP gH=>?_
 refine zEEALA (iX ok hG (d:=d) (rev:=sf.rev+1) tr hch hk u0.1 l1) fun T1 h1 tr1 u1=>?_
 have u01:Upd T0.n All T0 T1:=u0.trans (KT.low u1 u0.1)
 have X1:=X.new u01
 have hc1:T1.get cl=some (.list [.ref cr]):=u1.get (.inr ⟨rfl,rfl⟩) hc
 obtain ⟨_,T2,h2,rfl,row,X2,u2⟩:=dH ok hG (d:=d+2) (t:=t) (cl:=cl) (chs:=[(cr,ch)]) X1 sz tr1 l1 hc1 (fun y m=>by cases List.mem_singleton.mp m; exact hch.upd u1 fun _ _ _=>.inr ⟨rfl,rfl⟩) (lb rfl) ⟨hk,trivial⟩
 apply gH;clear gH
 have hs:=u0.get trivial X.hs
 have hs1:=X1.hs
 refine zEEEA (id tr) fun dr ep9 xs t3 hx3=>?_
 have ht:=t3.ht
 refine aH ok (l:=[(1735222900,_),(1717990261,_),(32763696029788516,_)]) (tF hG rfl) rfl fun Qz hQ=>?_
 refine aR (bB (aO ok rfl (by trivial) (by exact tA hG rfl) (by exact rfl)) aD (cE)) ?_
 apply am
 apply hI
 refine aE rfl ?_
 refine jx (ikL hc) ?_
 refine kL (cj (x:=some (.ref cr)) hc rfl) (aX) ?_
 refine aV (bp ok rfl (by trivial) (by exact tM hG rfl) (by exact rfl) (ah rfl (ah rfl ae)) (h1)) ?_
 apply ax
 refine lC (cj hc1 rfl) ?_
 refine aV (bp ok rfl (by trivial) (by exact tM hG rfl) (by exact rfl) (ah rfl (ah rfl ae)) (h2)) ?_
 apply ax
 apply hQ
 exact ⟨rfl,row,X2,u01.a.then u2 u01.1⟩
theorem pT {pl:Nat} (hp:T.get pl=some (.list [])):Ca c 518 [.ref s,.ref pl] (d+1) T (.ref pl) T:=by
 have:CaP c T 518 [.ref s,.ref pl] (d+1) fun v T'=>v=.ref pl∧T'=T:=by
  refine aH ok (l:=[(1735222900,_),(499985506929,_)]) (tF hG rfl) rfl fun Qz hQ=>?_
  refine aL (az (t:=false) (aN ok (tG hG rfl) (.inl ⟨_,rfl⟩) (ah rfl ae) (by first|exact cO (by (trivial)) (lb rfl)|exact gQ (by (trivial)) (lb rfl)|exact gR (lb rfl))) aD (jd)) ?_
  refine aK (aj rfl) ?_
  apply hQ
  exact ⟨rfl,rfl⟩
 refine zEEAL this fun _ h gR0=>?_
 subst gR0
 exact h
theorem nH {pl:Nat} {p:List Nat} (X:aM T s lr sp st sf rows es) (sz:rows.length<49) (hp:T.get pl=some (.list [.str p])) (hk:okC es (.delete p)) (l1:1≤T.n):CaP c T 518 [.ref s,.ref pl] (d+7) fun v T'=>v=.ref pl∧∃ (row:Rn) (t:Nat),aM T' s lr sp st { sf with tree:=t,rev:=sf.rev+1 } (rows ++ [row]) (cv (sf.rev+1) es (.delete p))∧Upd T.n (fun r _=>r≠s∧r≠lr) T T':=by
 refine zEEALA (eP ok hG (d:=d+1) X.tr l1) fun T1 h1 tr1 u1=>?_
 have hp1:=u1.get trivial hp
 have hs:=X.hs
 refine zEEEA (id X.tr) fun dr ep9 xs t3 hx3=>?_
 have ht:=t3.ht
 have hco:CoP c (d+6) (rm [bq,1769300593] [(1735222900,.ref s),(499985506929,.ref pl)]) (aq T1 (.list [])) (.list (.tuple (.cons (.str [100,101,108,101,116,101]) (.cons (.loc 1769300593) .nil)))) T1.n [1769300593] pl .list 0 .nil fun T'=>T'=aI (aq (aq T1 (.list [])) (.tuple [.str [100,101,108,101,116,101],.str p])) T1.n (.list [.ref (aq T1 (.list [])).n]):=by
  refine cN (cj (x:=some (.str p)) (af hp1) rfl) aX ?_
  apply cH
  apply bd
  apply cJ
  apply aA
  apply aY
  refine aC rfl ?_
  apply au
  refine d0 (lb rfl) ?_
  apply mD
  ·exact af (ag _ _)
  exact lb rfl
  exact Nat.le_trans l1 u1.1
  exact cI (cj (cb (Nat.ne_of_lt (aP hp1)) (af (af hp1))) rfl) rfl
 refine zEA hco fun _ h2 gR0=>?_
 subst gR0
 have u2:Upd T.n All T (aI (aq (aq T1 (.list [])) (.tuple [.str [100,101,108,101,116,101],.str p])) T1.n (.list [.ref (aq T1 (.list [])).n])):=(u1.new.new).put u1.1
 refine zEEALEA (pL ok hG (d:=d) (T0:=T) (cl:=T1.n) (cr:=(aq T1 (.list [])).n) (ch:=.delete p) X sz u2 ((tr1.all (Upd.refl.new.new (o:=.tuple [.str [100,101,108,101,116,101],.str p]))).off (af (ag _ _)) rfl rfl rfl) (ac (af (ag _ _))) (an (af (ag _ _)) (ag _ _) rfl) hk l1) fun T3 row h3 X3 u3=>?_
 refine aH ok (l:=[(1735222900,_),(499985506929,_)]) (tF hG rfl) rfl fun Qz hQ=>?_
 refine bF (az (t:=true) (aN ok (tG hG rfl) (.inl ⟨_,rfl⟩) (ah rfl ae) (by first|exact cO (by (trivial)) (lb rfl)|exact gQ (by (trivial)) (lb rfl)|exact gR (lb rfl))) aD (jd)) ?_
 refine aV (bp ok rfl (by trivial) (by exact tM hG rfl) (by exact rfl) (ai (dN ok (aO ok rfl (by trivial) (by exact tA hG rfl) (by exact rfl)) (by trivial) (by exact tM hG rfl) (by exact rfl) ae (h1)) (ai (dQ (aj rfl) (ikL hp1) (h2)) ae)) (h3)) ?_
 apply ax
 refine aK (aj rfl) ?_
 apply hQ
 exact ⟨rfl,row,_,X3,u3⟩
end
noncomputable def bU (e:En) (n:Int):Bool:=match e.own with | .int i=>decide (i=n) | _=>false
noncomputable def uh (e:En):Prop:=e.own=.none∨∃ i,e.own=.int i
theorem vU {c:Cx} {T:Hp} {e:En} {n:Int} (h:uh e):Cm c .eq e.own (.int n) T (bU e n):=by
 unfold bU
 rcases h with h | ⟨i,h⟩
 ·rw [h]; exact bf rfl
 ·rw [h]; exact bf rfl
noncomputable def rmS (n:Int) (ss:List Sn):List Sn:=ss.filter fun y=>!decide (y.num=n)
theorem tj {n:Int} {ss:List Sn} (nd:(ss.map Sn.num).Nodup):ddl (.int n) (ss.map Sn.dc)=(rmS n ss).map Sn.dc:=by
 induction ss with
 | nil=>rfl
 | cons x ss ih=>
  have nd:=List.nodup_cons.mp nd
  show (if decide (x.num=n)=true then _ else _)=_
  unfold rmS
  by_cases h:x.num=n
  ·rw [if_pos (decide_eq_true h),List.filter_cons_of_neg (by rw [decide_eq_true h]; exact Bool.false_ne_true)]
   rw [List.filter_eq_self.mpr fun y m=>?_]
   have k:¬ y.num=n:=fun e=>nd.1 (by rw [h,← e]; exact List.mem_map_of_mem m)
   rw [decide_eq_false k]; rfl
  ·rw [if_neg fun e=>h (of_decide_eq_true e),List.filter_cons_of_pos (by rw [decide_eq_false h]; rfl),ih nd.2]; rfl
theorem aM.cut {T T':Hp} {s lr sp st sd ep:Nat} {sf:SF} {rows:List Rn} {es:Es} {ss:List Sn} (X:aM T s lr sp st sf rows es) (ne:es≠[]) (hd:T.get sd=some (.dict (ss.map Sn.dc) ep)) (ns:ss≠[]) (u:Upd T.n (But sd) T T'):aM T' s lr sp st sf rows es:=by
 have nd:∀ {x:Nat},T.get x=some (.dict [] 0)→x≠sd:=fun h e=>by
  rw [e,hd] at h; injection h with q; injection q with q
  exact ns (List.map_eq_nil_iff.mp q)
 have kt:∀ y vs,T.get y=some (.tuple vs)→But sd y (.tuple vs):=fun y vs g=>aJ hd g rfl
 have u':Upd T.n (fun r _=>r≠s∧r≠sd) T T':=u.weak (Nat.le_refl _) fun _ _ p=>p.2
 exact ⟨u.get (aJ hd X.hs rfl) X.hs,X.ps,u.get (aJ hd X.hl rfl) X.hl,u.get (aJ hd X.hr rfl) X.hr,X.pl,fun y m=>(X.rn y m).upd u kt,u.get (aJ hd X.hp rfl) X.hp,X.ts.keep2 (List.cons_ne_nil _ _) X.hs hd u',X.tr.keep2 ne X.hs hd u',u.get (nd X.wat) X.wat,u.get (nd X.lea) X.lea,X.rep,X.lst,X.pos⟩
theorem aM.setw {T:Hp} {s lr sp st w:Nat} {sf:SF} {rows:List Rn} {es:Es} (X:aM T s lr sp st sf rows es) (hw:T.get w=some (.dict [] 0)):aM (aI T s (SF.ob { sf with wat:=w })) s lr sp st { sf with wat:=w } rows es:=by
 have hs:=X.hs
 have u:Upd T.n (But s) T (aI T s (SF.ob { sf with wat:=w })):=Upd.refl.set (fun _ k=>k rfl) hs
 exact ⟨ac hs,X.ps,an hs X.hl rfl,an hs X.hr rfl,X.pl,fun y m=>(X.rn y m).upd u fun _ _ g=>aJ hs g rfl,an hs X.hp rfl,X.ts.off hs rfl rfl rfl,X.tr.off hs rfl rfl rfl,an hs hw rfl,an hs X.lea rfl,X.rep,X.lst,X.pos⟩
noncomputable abbrev enI:PEs:=.cons (.cmp .eq (.attr (.sub (.attr (.attr (.loc 1735222900) 1717990261) 32763704688078694) (.loc 1769300593)) 495639820400) (.loc 126883592042095)) .nil
section
variable {c:Cx} (ok:Ok c) (hG:c.G=G) {d s lr sp st sd ep m:Nat} {T T0:Hp} {es:Es} {sf:SF} {rows:List Rn} {ss:List Sn} {rev:Int} {x:Sn}
include ok hG
theorem sv {src A lo dr ep2:Nat} {xs:List Nd} {ps:List (List Nat × En)} {n:Int} (hA:T0.n≤A) (h1:1≤A) (hs:T0.get s=some sf.ob) (t3:cg T0 lo sf.tree dr ep2 xs) (sz:ps.length<60) (hps:∀ q∈ps,(∃ x∈xs,x.pe=q)∧uh q.2) (hsrc:T0.get src=some (.list (ps.map fun q=>.str q.1))) (l:List (List Nat × En)):∀ (pr:List (List Nat × En)) (T:Hp) (loc:Loc),ps=pr ++ l→Upd T0.n All T0 T→T.get A=some (.list ((pr.filter fun q=>bU q.2 n).map fun q=>.str q.1))→lk loc 1735222900=some (.ref s)→lk loc 126883592042095=some (.int n) →
  CoP c d loc T (.list (.loc 1769300593)) A [1769300593] src .list pr.length enI fun T'=>T'.get A=some (.list ((ps.filter fun q=>bU q.2 n).map fun q=>.str q.1))∧Upd T0.n All T0 T':=by
 induction l with
 | nil=>
  intro pr T loc hx u ha k1 k2
  rw [List.append_nil] at hx; subst hx
  exact cI (cj (u.get trivial hsrc) (cq _ _)) ⟨ha,u⟩
 | cons q l ih=>
  intro pr T loc hx u ha k1 k2
  have mq:q∈ps:=hx▸List.mem_append_right _ (.head _)
  refine gp fun gP gH=>?_
  refine zA (hps q mq) fun gN0 ow=>?_
  obtain ⟨x,mx,ex⟩:=gN0
  apply gH;clear gH
  cases ex
  have ta:=t3.all u
  have ht:=ta.ht
  have hd:=ta.hd
  have ge:=ta.he x mx
  have hs1:=u.get trivial hs
  have dx:=dY mx t3.np
  have k3:lk (pt loc 1769300593 (.str x.p)) 1769300593=some (.str x.p):=ak
  have k4:lk (pt loc 1769300593 (.str x.p)) 1735222900=some (.ref s):=aa rfl k1
  have k5:lk (pt loc 1769300593 (.str x.p)) 126883592042095=some (.int n):=aa rfl k2
  have hx2:ps=(pr ++ [x.pe]) ++ l:=by rw [hx,List.append_assoc]; rfl
  have tn:=cj (j:=pr.length) (x:=some (.str x.p)) (u.get trivial hsrc) (by rw [hx]; exact bV (fun q:List Nat × En=>AV.str q.1) _ _ _)
  have cmx:=vU (c:=c) (T:=T) (n:=n) ow
  have fl:((pr ++ [x.pe]).filter fun q=>bU q.2 n)=(pr.filter fun q=>bU q.2 n) ++ (if bU x.e n=true then [x.pe] else []):=by
   rw [List.filter_append]
   congr 1
   cases h:bU x.e n
   ·rw [List.filter_cons_of_neg (by show ¬ bU x.e n=true; rw [h]; exact Bool.false_ne_true)]; rfl
   ·rw [List.filter_cons_of_pos (p:=fun q:List Nat × En=>bU q.2 n) h]; rfl
  have ih:=fun T=>ih (pr ++ [x.pe]) T (pt loc 1769300593 (.str x.p)) hx2
  rw [List.length_append] at ih
  cases h:bU x.e n
  ·have h:bU x.pe.2 n=false:=h
   rw [show bU x.e n=false from h,if_neg Bool.false_ne_true,List.append_nil] at fl
   rw [h] at cmx
   refine eh tn aX ?_
   apply eB
   apply aT
   apply dJ ok
   apply cL
   apply dJ ok
   apply cx ok
   exact k4
   ·trivial
   exact tA hG rfl
   exact rfl
   apply ft
   ·trivial
   exact tA hG rfl
   exact rfl
   refine aE k3 ?_
   refine ej (cQ hd cR dx) ?_
   apply ft
   ·trivial
   exact tA hG rfl
   exact rfl
   refine aE k5 ?_
   refine bE false (cmx) ?_
   apply bd
   apply bd
   exact ih T u (by rw [fl]; exact ha) k4 k5
  ·have h:bU x.pe.2 n=true:=h
   rw [show bU x.e n=true from h,if_pos rfl] at fl
   rw [h] at cmx
   refine cN tn aX ?_
   apply je
   apply aT
   apply dJ ok
   apply cL
   apply dJ ok
   apply cx ok
   exact k4
   ·trivial
   exact tA hG rfl
   exact rfl
   apply ft
   ·trivial
   exact tA hG rfl
   exact rfl
   refine aE k3 ?_
   refine ej (cQ hd cR dx) ?_
   apply ft
   ·trivial
   exact tA hG rfl
   exact rfl
   refine aE k5 ?_
   refine bE true (cmx) ?_
   apply bd
   apply cH
   apply bd
   refine aE k3 ?_
   apply mD
   exact ha
   rw [LQ]; exact lt4 (Nat.le_trans (List.length_filter_le _ _) (Nat.le_trans (by rw [hx,List.length_append]; exact Nat.le_add_right _ _) (Nat.le_of_lt sz))) rfl
   first | assumption | exact Nat.le_add_left 1 _ | exact lb rfl
   exact ih _ (u.put hA) (by rw [fl,List.map_append]; exact ac ha) k4 k5
end
theorem jf {a b:Nat} (h:nI a=nI b):a=b:=Nat.add_right_cancel (Int.ofNat_inj.mp h)
section
variable {es:Es} {q:List Pl}
theorem x9 {i:Nat} (h:∀ t∈q,t.sp≠i):rmN i q=q:=List.filter_eq_self.mpr fun t m=>by rw [decide_eq_false (h t m)]; rfl
theorem sr {t:Pl} {n:Int}:bU t.e n=(lt3 t.sp && decide (nI t.sp=n)):=by
 by_cases h:t.sp<3
 ·rw [kW h,show lt3 t.sp=true from Nat.ble_eq_true_of_le h]; rfl
 ·have z:Nat.blt t.sp 3=false:=Bool.eq_false_iff.mpr fun k=>h (Nat.le_of_ble_eq_true k)
  rw [show lt3 t.sp=false from z]
  show bU t.e n=false
  unfold bU
  rw [show t.e.own=.none by show gr t.sp=.none; unfold gr; rw [z]; rfl]
theorem xa {n:Int} (Q:Q8 q):(∃ t∈q,t.sp<3∧nI t.sp=n∧(q.map Pl.pe).filter (fun r=>bU r.2 n)=[t.pe])∨((∀ t∈q,t.sp<3→nI t.sp≠n)∧(q.map Pl.pe).filter (fun r=>bU r.2 n)=[]):=by
 have nd:=Q.nd
 clear Q
 induction q with
 | nil=>exact .inr ⟨fun t m=>(by cases m),rfl⟩
 | cons y q ih=>
  have nd:=List.nodup_cons.mp nd
  by_cases z:y.sp<3∧nI y.sp=n
  ·refine .inl ⟨y,.head _,z.1,z.2,?_⟩
   show List.filter _ (y.pe :: q.map Pl.pe)=_
   rw [List.filter_cons_of_pos (p:=fun r:List Nat × En=>bU r.2 n) (a:=y.pe) (by show bU y.e n=true; rw [sr,show lt3 y.sp=true from Nat.ble_eq_true_of_le z.1,decide_eq_true z.2]; rfl),List.filter_eq_nil_iff.mpr]
   intro r mr hr
   refine zEA (List.mem_map.mp mr) fun u mu gR0=>?_
   subst gR0
   have hr:bU u.e n=true:=hr
   rw [sr] at hr
   have h2:nI u.sp=n:=of_decide_eq_true (Bool.and_eq_true_iff.mp hr).2
   have:y.sp=u.sp:=jf (z.2.trans h2.symm)
   exact nd.1 (this▸List.mem_map_of_mem mu)
  ·have e:(List.map Pl.pe (y :: q)).filter (fun r=>bU r.2 n)=(q.map Pl.pe).filter (fun r=>bU r.2 n):=by
    show List.filter _ (y.pe :: q.map Pl.pe)=_
    rw [List.filter_cons_of_neg (p:=fun r:List Nat × En=>bU r.2 n) (a:=y.pe) fun h=>?_]
    have h:bU y.e n=true:=h
    rw [sr] at h
    have h:=Bool.and_eq_true_iff.mp h
    exact z ⟨Nat.le_of_ble_eq_true h.1,of_decide_eq_true h.2⟩
   rw [e]
   rcases ih nd.2 with ⟨t,mt,a,b⟩ | ⟨a,b⟩
   ·exact .inl ⟨t,.tail _ mt,a,b⟩
   ·exact .inr ⟨fun t mt l h=>by cases mt with
     | head=>exact z ⟨l,h⟩
     | tail _ mt=>exact a t mt l h,b⟩
theorem oj {p:List Nat} {e:En} {n:Int} {l:Es} (h:PlE e):((p,e) :: l).filter (fun r=>bU r.2 n)=l.filter fun r=>bU r.2 n:=by
 refine List.filter_cons_of_neg (p:=fun r:List Nat × En=>bU r.2 n) fun k=>?_
 have:bU e n=true:=k
 unfold bU at this
 rw [h.1] at this; cases this
theorem WS.filt {n:Int} (W:WS es q) (Q:Q8 q):(∃ t∈q,t.sp<3∧nI t.sp=n∧es.filter (fun r=>bU r.2 n)=[t.pe])∨((∀ t∈q,t.sp<3→nI t.sp≠n)∧es.filter (fun r=>bU r.2 n)=[]):=by
 rcases W with ⟨rfl,rfl⟩ | B
 ·exact .inr ⟨fun t m=>(by cases m),rfl⟩
 ·obtain ⟨e0,e1,e2,rfl,_,_,_,h0,h1,h2⟩:=B
  rw [oj h0,oj h1,oj h2]
  exact xa Q
theorem WS.own (W:WS es q):∀ r∈es,uh r.2:=by
 rcases W with ⟨rfl,rfl⟩ | B
 ·intro r m; cases List.mem_singleton.mp m; exact .inl rfl
 ·obtain ⟨e0,e1,e2,rfl,_,_,_,h0,h1,h2⟩:=B
  intro r m
  cases m with
  | head=>exact .inl h0.1
  | tail _ m=>cases m with
   | head=>exact .inl h1.1
   | tail _ m=>cases m with
    | head=>exact .inl h2.1
    | tail _ m=>
     refine zEA (List.mem_map.mp m) fun u mu gR0=>?_
     subst gR0
     show u.e.own=.none∨∃ i,u.e.own=.int i
     by_cases h:u.sp<3
     ·exact .inr ⟨_,by rw [kW h]⟩
     ·refine .inl ?_
      show gr u.sp=.none
      unfold gr
      rw [show Nat.blt u.sp 3=false from Bool.eq_false_iff.mpr fun k=>h (Nat.le_of_ble_eq_true k)]; rfl
end
section
variable {c:Cx} (ok:Ok c) (hG:c.G=G) {d s lr sp st sd ep m:Nat} {T:Hp} {es:Es} {ss:List Sn} {rev:Int} {x:Sn} {q:List Pl}
include ok hG
theorem wE {i:Nat} (L:L8 T s lr sp st sd ep ss es m rev) (hm:m<40) (mx:x∈ss) (hx:x.num=nI i) (i3:i<3) (Q:Q8 q) (W:WS es q) (lsz:ss.length<4000):CaP c T 513 [.ref s,.int x.num] (d+8) fun v T'=>∃ es' m' rev',L8 T' s lr sp st sd (ep+1) (rmS x.num ss) es' m' rev'∧m'≤m+1∧WS es' (rmN i q)∧Upd T.n (K8 s lr sd) T T':=by
 refine zEEAAA (id L.X) fun sf rows X hr e er=>?_
 subst e; subst er
 have hs:=X.hs
 have hd:=L.se.hd
 have dx:=dy mx L.se.nd
 have ns:ss≠[]:=fun e=>by rw [e] at mx; cases mx
 have u1:Upd T.n (But sf.ses) T (aI T sf.ses (.dict (ddl (.int x.num) (ss.map Sn.dc)) (ep+1))):=Upd.refl.set (fun _ k=>k rfl) hd
 have X1:=X.cut L.ne hd ns u1
 have u2:Upd T.n All (aI T sf.ses (.dict (ddl (.int x.num) (ss.map Sn.dc)) (ep+1))) (aq (aI T sf.ses (.dict (ddl (.int x.num) (ss.map Sn.dc)) (ep+1))) (.dict [] 0)):=Upd.refl.new
 have X3:=(X1.new u2).setw (w:=T.n) (ag (aI T sf.ses (.dict (ddl (.int x.num) (ss.map Sn.dc)) (ep+1))) _)
 have hs1:=X1.hs
 have hs3:=X3.hs
 have hw1:=X1.wat
 have u13:Upd T.n (fun r _=>r≠s∧r≠sf.ses) T (aI (aq (aI T sf.ses (.dict (ddl (.int x.num) (ss.map Sn.dc)) (ep+1))) (.dict [] 0)) s (SF.ob { sf with wat:=T.n })):=((Upd.refl.set (fun _ k=>k.2 rfl) hd).new).set (fun _ k=>k.1 rfl) hs
 refine zEA (iB (fun r:List Nat × En=>r.1) es) fun mm pm so=>?_
 refine zEEEA (id X3.tr) fun dr ep2 xs t3 hxs=>?_
 have lx:(xs.map Nd.p).length<64:=by rw [LQ]; exact Nat.lt_trans t3.sz (lb rfl)
 have pm2:(mm.map (·.1)).Perm (xs.map Nd.p):=by
  have:=pm.map (·.1)
  rw [← hxs,List.map_map] at this; exact this
 have ht3:=t3.ht
 have hd3:=t3.hd
 have sb:(rmS x.num ss).Sublist ss:=List.filter_sublist
 have se1:bu (aI T sf.ses (.dict (ddl (.int x.num) (ss.map Sn.dc)) (ep+1))) sf.ses (ep+1) (rmS x.num ss):=⟨by rw [← tj L.se.nd]; exact ac hd,fun y my=>⟨(L.se.he y (sb.subset my)).1,let ⟨h,k⟩:=(L.se.he y (sb.subset my)).2; ⟨h,an hd k rfl⟩⟩,(sb.map _).nodup L.se.nd⟩
 have se3:=(se1.new u2).off (o':=SF.ob { sf with wat:=T.n }) (X1.new u2).hs rfl rfl
 generalize hH3:aI (aq (aI T sf.ses (.dict (ddl (.int x.num) (ss.map Sn.dc)) (ep+1))) (.dict [] 0)) s (SF.ob { sf with wat:=T.n })=H3 at *
 have n3:1≤H3.n:=Nat.le_trans L.pn u13.1
 have hps:∀ r∈mm,(∃ x∈xs,x.pe=r)∧uh r.2:=fun r mr=>⟨List.mem_map.mp (hxs▸pm.subset mr),W.own r (pm.subset mr)⟩
 have lm:mm.length<60:=by rw [pm.length_eq,← hxs,LQ]; exact t3.sz
 have hsrc:(aq H3 (.list ((mm.map (·.1)).map .str))).get H3.n=some (.list (mm.map fun r=>.str r.1)):=by
  have:=ag H3 (.list ((mm.map (·.1)).map .str)); rw [List.map_map] at this ⊢; exact this
 refine zEAA (sv ok hG (d:=d+7) (T0:=aq H3 (.list ((mm.map (·.1)).map .str))) (src:=H3.n) (A:=(aq H3 (.list ((mm.map (·.1)).map .str))).n) (n:=x.num) (Nat.le_refl _) (Nat.le_add_left 1 _) (af hs3) (t3.all Upd.refl.new) lm hps hsrc mm [] (aq (aq H3 (.list ((mm.map (·.1)).map .str))) (.list [])) (rm [bq,1769300593] [(1735222900,.ref s),(126883592042095,.int x.num)]) rfl Upd.refl.new (ag _ _) rfl rfl) fun T5 h5 g5 u5=>?_
 have u35:Upd H3.n All H3 T5:=Upd.refl.new.then u5 (Nat.le_succ _)
 have X5:=X3.new u35
 have se5:=se3.new u35
 have n5:1≤T5.n:=Nat.le_trans n3 u35.1
 have pf:=pm.filter fun r:List Nat × En=>bU r.2 x.num
 have us':∀ y∈rmS x.num ss,y.u≠[42]:=fun y my=>L.us y (sb.subset my)
 have u05:Upd T.n (K8 s lr sf.ses) T T5:=(u13.weak (Nat.le_refl _) fun _ _ p=>⟨p.1,p.2.2.1⟩).then u35.a u13.1
 rcases W.filt (n:=x.num) Q with ⟨t,mt,t3',ht,hf⟩ | ⟨hno,hf⟩
 ·rw [hf] at pf
  rw [List.perm_singleton.mp pf] at g5
  have B:Bs es q:=W.elim (fun w=>by rw [w.2] at mt; cases mt) id
  have t4:=Nat.lt_succ_of_lt t3'
  have Bd:=B.del (r:=sf.rev+1) Q t4
  refine zEEALEEA (nH ok hG (d:=d) X5 (Nat.lt_of_le_of_lt hr (Nat.lt_trans hm (lb rfl))) g5 (B.okDel Q t4 (List.mem_map_of_mem mt)) n5) fun T6 row tt h6 X6 u6=>?_
  have ei:t.sp=i:=jf (ht.trans hx)
  refine aH ok (l:=[(1735222900,_),(126883592042095,_)]) (tF hG rfl) rfl fun Qz hQ=>?_
  apply am
  apply oa
  apply cx ok
  exact rfl
  ·trivial
  exact tA hG rfl
  exact rfl
  refine aE rfl ?_
  apply wp
  ·trivial
  exact bO
  rw [LQ]; exact lsz
  exact dx
  exact L.pd
  refine be ok (kK ok (aO ok rfl (by trivial) (by exact tA hG rfl) (by exact rfl)) (ikD hw1 rfl) (om (kg (af hw1) rfl rfl))) rfl ((X1.new u2).hs) (by exact tA hG rfl) (by exact lb rfl) (by exact X.ps) ?_
  show ExP c _ _ (aI (aq (aI T sf.ses (.dict (ddl (.int x.num) (ss.map Sn.dc)) (ep+1))) (.dict [] 0)) s (SF.ob { sf with wat:=T.n })) _ _ _
  rw [hH3]
  refine aK (bp ok rfl (by trivial) (by exact tM hG rfl) (by exact rfl) (ai (dQ (aN ok (tG hG rfl) (.inl ⟨_,rfl⟩) (ai (fC ok (aO ok rfl (by trivial) (by exact tA hG rfl) (by exact rfl)) (by trivial) (by exact tA hG rfl) (by exact rfl)) ae) (eW (l:=xs.map Nd.p) (m:=mm.map (·.1)) (by have:=eI (c:=c) hd3 (by rw [LQ,← LQ (f:=Nd.p)]; exact lx); rw [hJ] at this; rw [List.map_map]; exact this) lx pm2 so)) (ikL (ag _ _)) (h5)) ae) (h6)) ?_
  apply hQ
  refine ⟨_,_,_,⟨⟨_,_,X6,by rw [List.length_append]; exact Nat.succ_le_succ hr,rfl,rfl⟩,se5.keep X5.hs X5.hr u6,us',Bd.ne,L.pd,Nat.le_trans n5 u6.1⟩,Nat.le_refl _,?_,u05.then (u6.weak (Nat.le_refl _) fun _ _ p=>⟨p.1,p.2.1⟩) u05.1⟩
  rw [← ei]; exact .inr Bd
 ·rw [hf] at pf
  rw [List.perm_nil.mp pf] at g5
  have h6:=pT ok hG (d:=d+6) (s:=s) g5
  refine aH ok (l:=[(1735222900,_),(126883592042095,_)]) (tF hG rfl) rfl fun Qz hQ=>?_
  apply am
  apply oa
  apply cx ok
  exact rfl
  ·trivial
  exact tA hG rfl
  exact rfl
  refine aE rfl ?_
  apply wp
  ·trivial
  exact bO
  rw [LQ]; exact lsz
  exact dx
  exact L.pd
  refine be ok (kK ok (aO ok rfl (by trivial) (by exact tA hG rfl) (by exact rfl)) (ikD hw1 rfl) (om (kg (af hw1) rfl rfl))) rfl ((X1.new u2).hs) (by exact tA hG rfl) (by exact lb rfl) (by exact X.ps) ?_
  show ExP c _ _ (aI (aq (aI T sf.ses (.dict (ddl (.int x.num) (ss.map Sn.dc)) (ep+1))) (.dict [] 0)) s (SF.ob { sf with wat:=T.n })) _ _ _
  rw [hH3]
  refine aK (bp ok rfl (by trivial) (by exact tM hG rfl) (by exact rfl) (ai (dQ (aN ok (tG hG rfl) (.inl ⟨_,rfl⟩) (ai (fC ok (aO ok rfl (by trivial) (by exact tA hG rfl) (by exact rfl)) (by trivial) (by exact tA hG rfl) (by exact rfl)) ae) (eW (l:=xs.map Nd.p) (m:=mm.map (·.1)) (by have:=eI (c:=c) hd3 (by rw [LQ,← LQ (f:=Nd.p)]; exact lx); rw [hJ] at this; rw [List.map_map]; exact this) lx pm2 so)) (ikL (ag _ _)) (h5)) ae) (h6)) ?_
  apply hQ
  have hno':∀ t∈q,t.sp≠i:=fun t mt e=>hno t mt (e▸i3) (by rw [e,hx])
  exact ⟨_,_,_,⟨⟨_,_,X5,hr,rfl,rfl⟩,se5,us',L.ne,L.pd,n5⟩,Nat.le_succ _,by rw [x9 hno']; exact W,u05⟩
theorem rA {i:Nat} (L:L8 T s lr sp st sd ep ss es m rev) (hm:m<40) (mx:x∈ss) (hx:x.num=nI i) (i3:i<3) (Q:Q8 q) (W:WS es q) (lsz:ss.length<4000):CaP c T 508 [.ref s,.int x.num] (d+9) fun v T'=>∃ es' m' rev',L8 T' s lr sp st sd (ep+1) (rmS x.num ss) es' m' rev'∧m'≤m+1∧WS es' (rmN i q)∧Upd T.n (K8 s lr sd) T T':=by
 refine gp fun gP gH=>?_
 refine zEEAAA (id L.X) fun sf rows X _ e _=>?_
 subst e
 refine zAE (L.se.he x mx) fun px hh gx=>?_
 refine zA (L.touch (h2:=sf.tick) gx) fun L1 u1=>?_
 have h1:=dT ok hG (d:=d+7) X.hs L.se.hd mx L.se.nd gx px
 refine zEEAEEE (wE ok hG (d:=d) L1 hm mx hx i3 Q W lsz) fun v2 T2 h2 es' m' rev' gC0=>?_
 refine zAAA gC0 fun r1 r2 r4 r6=>?_
 apply gH;clear gH
 have hs:=X.hs
 have hs1:=(X.touch (h2:=sf.tick) gx).hs
 refine aH ok (l:=[(1735222900,_),(126883592042095,_)]) (tF hG rfl) rfl fun Qz hQ=>?_
 refine aV (bp ok rfl (by trivial) (by exact tM hG rfl) (by exact rfl) (ah rfl ae) (h1)) ?_
 refine aK (bp ok rfl (by trivial) (by exact tM hG rfl) (by exact rfl) (ah rfl ae) (h2)) ?_
 apply hQ
 exact ⟨_,_,_,r1,r2,r4,u1.then r6 u1.1⟩
end
noncomputable abbrev n8:PS:=(.ite (.cmp .isin (.loc 126883592042095) (.attr (.loc 440023414132) 8390048233337153140)) (.cons (.asg 435661729895 (.str [])) (.cons (.try (.cons (.ite (.cmp .lt (.loc 7693410) (.int 2)) (.cons (.expr (.meth (.loc 32482229711233635) 495640211302 (.cons (.loc 126883592042095) .nil))) .nil) (.cons (.ite (.cmp .eq (.loc 7693410) (.int 2)) (.cons (.expr (.meth (.loc 32482229711233635) 440089601645 (.cons (.loc 126883592042095) .nil))) .nil) (.cons (.ite (.cmp .eq (.bin .fdiv (.loc 440073544311) (.int 12)) (.int 0)) (.cons (.expr (.meth (.loc 440023414132) 440040189284 (.cons (.loc 126883592042095) .nil))) .nil) .nil) .nil)) .nil)) .nil) 545146499936607190152532 495807853414 (.cons (.asg 435661729895 (.attr (.loc 495807853414) 1702064248)) .nil)) (.cons (.ite (.and (.cons (.cmp .lt (.loc 7693410) (.int 2)) (.cons (.cmp .notin (.loc 126883592042095) (.loc 112585763745642)) .nil))) (.cons (.expr (.meth (.loc 112585763745642) 111529134485858 (.cons (.loc 126883592042095) .nil))) (.cons (.asg 111490630054256 (.or (.cons (.loc 111490630054256) (.cons (.cmp .ge (.call (.glb 7300717) (.cons (.loc 112585763745642) .nil)) (.loc 504381206628)) .nil)))) .nil)) .nil) (.cons (.ite (.cmp .eq (.loc 7693410) (.int 2)) (.cons (.ite (.cmp .ne (.cmp .eq (.loc 435661729895) (.str [110,111,116,32,105,110,115,105,100,101])) (.cmp .notin (.loc 126883592042095) (.loc 112585763745642))) (.cons (.ret (.bool false)) .nil) .nil) .nil) .nil) (.cons (.ite (.or (.cons (.cmp .eq (.loc 7693410) (.int 2)) (.cons (.and (.cons (.cmp .eq (.loc 7693410) (.int 3)) (.cons (.cmp .eq (.bin .fdiv (.loc 440073544311) (.int 12)) (.int 0)) .nil))) .nil))) (.cons (.asgC 112585763745642 (.loc 6713200) [6713200] (.loc 112585763745642) (.cons (.cmp .ne (.loc 6713200) (.loc 126883592042095)) .nil)) .nil) .nil) (.cons (.asg 111490630054256 (.and (.cons (.loc 111490630054256) (.cons (.cmp .ne (.loc 112585763745642) (.list .nil)) .nil)))) .nil)))))) .nil)
noncomputable abbrev yk:PS:=(.asg 111490630054256 (.and (.cons (.loc 111490630054256) (.cons (.cmp .ne (.loc 112585763745642) (.list .nil)) .nil))))
noncomputable abbrev yo:PS:=(.asg 111490630054256 (.or (.cons (.loc 111490630054256) (.cons (.cmp .ge (.call (.glb 7300717) (.cons (.loc 112585763745642) .nil)) (.loc 504381206628)) .nil))))
noncomputable abbrev nL (lq:List Nat):AO:=.list ((lq.map nI).map .int)
structure Cl6 (T:Hp) (s lr b wh li:Nat) (n:Int) (ns:List Int) (lq:List Nat):Prop where
 hb:T.get b=some (gV s n)
 hw:T.get wh=some (.list [.int 2,.int 3,.int 4])
 hli:T.get li=some (nL lq)
 scr:T.get 0=some (.list (ns.map .int))
 nw:wh≠lr
 nl:li≠lr
 wl:wh≠li
 pl:1≤li
 p0:1≤lr
structure Sd6 (T:Hp) (s lr sp st sd ep:Nat) (ss:List Sn) (es:Es) (m:Nat) (rv:Int) (q:List Pl) (k:Nat):Prop where
 L:L8 T s lr sp st sd ep ss es m rv
 Q:Q8 q
 W:WS es q
 mk':m≤3 * k
 eye:∃ y∈ss,y.num=1
 opn:∀ i∈lqL q,∃ y∈ss,y.num=nI i
 len:ss.length≤4
noncomputable def St6 (T:Hp) (s lr sp st sd:Nat) (q:List Pl) (k:Nat):Prop:=∃ ep ss es m rv,Sd6 T s lr sp st sd ep ss es m rv q k
section
variable {T T':Hp} {s lr sp st sd ep m b wh li k:Nat} {ss:List Sn} {es:Es} {q:List Pl} {rv n:Int} {ns:List Int} {lq:List Nat}
theorem Cl6.all (c:Cl6 T s lr b wh li n ns lq) (u:Upd T.n All T T'):Cl6 T' s lr b wh li n ns lq:={ c with hb:=u.get trivial c.hb,hw:=u.get trivial c.hw,hli:=u.get trivial c.hli,scr:=u.get trivial c.scr }
theorem Cl6.op (c:Cl6 T s lr b wh li n ns lq) (L:L8 T s lr sp st sd ep ss es m rv) (u:Upd T.n (K8 s lr sd) T T'):Cl6 T' s lr b wh li n ns lq:={ c with hb:=L.kb c.hb u,hw:=L.kl c.nw c.hw u,hli:=L.kl c.nl c.hli u,scr:=L.kl (Nat.ne_of_lt c.p0) c.scr u }
theorem Cl6.lin (c:Cl6 T s lr b wh li n ns lq) (lq':List Nat):Cl6 (aI T li (nL lq')) s lr b wh li n ns lq':={ c with hb:=an c.hli c.hb rfl,hw:=cb c.wl c.hw,hli:=ac c.hli,scr:=cb (Nat.ne_of_lt c.pl) c.scr }
theorem Cl6.sw {li':Nat} {lq':List Nat} (c:Cl6 T s lr b wh li n ns lq) (h:T.get li'=some (nL lq')) (n1:li'≠lr) (n2:wh≠li') (p:1≤li'):Cl6 T s lr b wh li' n ns lq':={ c with hli:=h,nl:=n1,wl:=n2,pl:=p }
theorem Sd6.new (S:Sd6 T s lr sp st sd ep ss es m rv q k) (u:Upd T.n All T T'):Sd6 T' s lr sp st sd ep ss es m rv q k:={ S with L:=S.L.new u }
theorem Sd6.up (S:Sd6 T s lr sp st sd ep ss es m rv q k):Sd6 T s lr sp st sd ep ss es m rv q (k+1):={ S with mk':=Nat.le_trans S.mk' (Nat.mul_le_mul_left 3 (Nat.le_succ k)) }
theorem Sd6.m30 (S:Sd6 T s lr sp st sd ep ss es m rv q k) (hk:k<9):m<30:=Nat.lt_of_le_of_lt S.mk' (Nat.lt_of_lt_of_le (Nat.mul_lt_mul_of_pos_left hk (lb rfl:0<3)) (lb rfl))
end
structure Lk6 (loc:Loc) (s b wh li:Nat) (n:Int) (o:Bool):Prop where
 h1:lk loc 129129977701492=some (.ref 0)
 h2:lk loc 440023414132=some (.ref s)
 h3:lk loc 7367032=some (.ref wh)
 h4:lk loc 32482229711233635=some (.ref b)
 h5:lk loc 112585763745642=some (.ref li)
 h6:lk loc 504381206628=some (.int n)
 h7:lk loc 6716006=some (.int 1)
 h8:lk loc 111490630054256=some (.bool o)
theorem Lk6.put {loc:Loc} {s b wh li k:Nat} {n:Int} {o:Bool} {v:AV} (h:Lk6 loc s b wh li n o) (q:(Nat.beq 129129977701492 k || Nat.beq 440023414132 k || Nat.beq 7367032 k || Nat.beq 32482229711233635 k || Nat.beq 112585763745642 k || Nat.beq 504381206628 k || Nat.beq 6716006 k || Nat.beq 111490630054256 k)=false):Lk6 (pt loc k v) s b wh li n o:=by
 refine gp fun gP gH=>?_
 refine zA (Bool.or_eq_false_iff.mp q) fun q q8=>?_
 refine zA (Bool.or_eq_false_iff.mp q) fun q q7=>?_
 refine zA (Bool.or_eq_false_iff.mp q) fun q q6=>?_
 refine zA (Bool.or_eq_false_iff.mp q) fun q q5=>?_
 refine zA (Bool.or_eq_false_iff.mp q) fun q q4=>?_
 refine zA (Bool.or_eq_false_iff.mp q) fun q q3=>?_
 refine zA (Bool.or_eq_false_iff.mp q) fun q1 q2=>?_
 apply gH;clear gH
 exact ⟨aa q1 h.h1,aa q2 h.h2,aa q3 h.h3,aa q4 h.h4,aa q5 h.h5,aa q6 h.h6,aa q7 h.h7,aa q8 h.h8⟩
theorem Lk6.lin {loc:Loc} {s b wh li li':Nat} {n:Int} {o:Bool} (h:Lk6 loc s b wh li n o):Lk6 (pt loc 112585763745642 (.ref li')) s b wh li' n o:=⟨aa rfl h.h1,aa rfl h.h2,aa rfl h.h3,aa rfl h.h4,ak,aa rfl h.h6,aa rfl h.h7,aa rfl h.h8⟩
theorem Lk6.op {loc:Loc} {s b wh li:Nat} {n:Int} {o o':Bool} (h:Lk6 loc s b wh li n o):Lk6 (pt loc 111490630054256 (.bool o')) s b wh li n o':=⟨aa rfl h.h1,aa rfl h.h2,aa rfl h.h3,aa rfl h.h4,aa rfl h.h5,aa rfl h.h6,aa rfl h.h7,ak⟩
theorem Lk6.rm {loc:Loc} {s b wh li k:Nat} {n:Int} {o:Bool} (h:Lk6 loc s b wh li n o) (q:(d3 [k] 129129977701492 || d3 [k] 440023414132 || d3 [k] 7367032 || d3 [k] 32482229711233635 || d3 [k] 112585763745642 || d3 [k] 504381206628 || d3 [k] 6716006 || d3 [k] 111490630054256)=false):Lk6 (Mine.Internal.rm [k] loc) s b wh li n o:=by
 refine gp fun gP gH=>?_
 refine zA (Bool.or_eq_false_iff.mp q) fun q q8=>?_
 refine zA (Bool.or_eq_false_iff.mp q) fun q q7=>?_
 refine zA (Bool.or_eq_false_iff.mp q) fun q q6=>?_
 refine zA (Bool.or_eq_false_iff.mp q) fun q q5=>?_
 refine zA (Bool.or_eq_false_iff.mp q) fun q q4=>?_
 refine zA (Bool.or_eq_false_iff.mp q) fun q q3=>?_
 refine zA (Bool.or_eq_false_iff.mp q) fun q1 q2=>?_
 apply gH;clear gH
 exact ⟨cG q1 h.h1,cG q2 h.h2,cG q3 h.h3,cG q4 h.h4,cG q5 h.h5,cG q6 h.h6,cG q7 h.h7,cG q8 h.h8⟩
theorem wr {i:Nat} (h:i<3):([.int 2,.int 3,.int 4]:List AV)[i]?=some (.int (nI i)):=by
 match i,h with
 | 0,_=>rfl
 | 1,_=>rfl
 | 2,_=>rfl
theorem tL {fs:List Int} {v:Int}:(fs.map AV.int).all (kin · (.int v))=true:=List.all_eq_true.mpr fun x m=>by
 refine zEA (List.mem_map.mp m) fun n _ gR0=>?_
 subst gR0
 rfl
theorem pb {lq:List Nat} {i:Nat} (h:i∈lq):((lq.map nI).map AV.int).any (sq · (.int (nI i)))=true:=List.any_eq_true.mpr ⟨.int (nI i),List.mem_map_of_mem (List.mem_map_of_mem h),decide_eq_true rfl⟩
theorem sG {lq:List Nat} {i:Nat} (h:i∉lq):((lq.map nI).map AV.int).any (sq · (.int (nI i)))=false:=by
 rw [Bool.eq_false_iff]
 intro e
 refine zEA (List.any_eq_true.mp e) fun x m k=>?_
 refine zEA (List.mem_map.mp m) fun y my gR0=>?_
 subst gR0
 refine zEA (List.mem_map.mp my) fun j mj gR0=>?_
 subst gR0
 have:nI j=nI i:=of_decide_eq_true k
 exact h (jf this▸mj)
theorem map_nil {lq:List Nat}:decide (lq.map nI=[])=decide (lq=[]):=decide_eq_decide.mpr List.map_eq_nil_iff
noncomputable abbrev inI:PEs:=.cons (.cmp .ne (.loc 6713200) (.loc 126883592042095)) .nil
section
variable {c:Cx} (ok:Ok c) (hG:c.G=G) {d s lr b wh li:Nat} {T0 T:Hp} {n:Int} {o:Bool} {lq:List Nat} {loc:Loc}
include ok hG
theorem iK {src A i:Nat} (hA:T0.n≤A) (h1:1≤A) (sz:lq.length<60) (hsrc:T0.get src=some (nL lq)) (l:List Nat):∀ (pr:List Nat) (T:Hp) (loc:Loc),lq=pr ++ l→Upd T0.n All T0 T→T.get A=some (nL (pr.filter fun n=>!decide (n=i)))→lk loc 126883592042095=some (.int (nI i)) →
  CoP c d loc T (.list (.loc 6713200)) A [6713200] src .list pr.length inI fun T'=>T'.get A=some (nL (lq.filter fun n=>!decide (n=i)))∧Upd T0.n All T0 T':=by
 induction l with
 | nil=>
  intro pr T loc hx u ha k1
  rw [List.append_nil] at hx; subst hx
  exact cI (cj (u.get trivial hsrc) (by rw [List.map_map]; exact cq _ _)) ⟨ha,u⟩
 | cons j l ih=>
  intro pr T loc hx u ha k1
  have k2:lk (pt loc 6713200 (.int (nI j))) 126883592042095=some (.int (nI i)):=aa rfl k1
  have k3:lk (pt loc 6713200 (.int (nI j))) 6713200=some (.int (nI j)):=ak
  have tn:=cj (j:=pr.length) (x:=some (.int (nI j))) (u.get trivial hsrc) (by rw [List.map_map,hx]; exact bV _ _ _ _)
  have ih:=fun T=>ih (pr ++ [j]) T (pt loc 6713200 (.int (nI j))) (by rw [hx,List.append_assoc]; rfl)
  rw [List.length_append] at ih
  by_cases z:j=i
  ·refine eh tn aX ?_
   apply eB; apply aT
   refine aE k3 ?_
   refine aE k2 ?_
   refine bE false (iu (t:=true) (congrArg some (decide_eq_true (by rw [z])))) ?_
   apply bd; apply bd
   refine ih T u ?_ k2
   rw [List.filter_append,List.filter_cons_of_neg (by rw [decide_eq_true z]; exact Bool.false_ne_true)]
   show T.get A=some (nL (pr.filter _ ++ []))
   rw [List.append_nil]; exact ha
  ·refine cN tn aX ?_
   apply je; apply aT
   refine aE k3 ?_
   refine aE k2 ?_
   refine bE true (iu (t:=false) (congrArg some (decide_eq_false fun e=>z (jf e)))) ?_
   apply bd; apply cH; apply bd
   refine aE k3 ?_
   refine mD ha (by rw [LQ,LQ]; exact lt4 (Nat.le_trans (List.length_filter_le _ _) (Nat.le_trans (by rw [hx,List.length_append]; exact Nat.le_add_right _ _) (Nat.le_of_lt sz))) rfl) h1 ?_
   refine ih _ (u.put hA) ?_ k2
   rw [List.filter_append,List.filter_cons_of_pos (by rw [decide_eq_false z]; rfl)]
   unfold nL
   rw [List.map_append,List.map_append]
   exact ac ha
theorem gI (lc:Lk6 loc s b wh li n o) (hli:T.get li=some (nL lq)) (pn:1≤T.n):StP c d loc T yk (fun l T'=>l=pt loc 111490630054256 (.bool (o && !decide (lq=[])))∧Upd T.n All T T') (fun _ _=>False):=by
 generalize hN:(fun (l:Loc) (T':Hp)=>l=pt loc 111490630054256 (.bool (o && !decide (lq=[])))∧Upd T.n All T T')=N
 refine gp fun gP gH=>?_
 obtain ⟨l1,l2,l3,l4,l5,l6,l7,l8⟩:=lc
 apply gH;clear gH
 cases o with
 | false=>
  apply fT
  apply o3
  apply jw
  refine aE (by trivial) ?_
  apply eG
  apply bd
  subst hN
  exact ⟨rfl,Upd.refl⟩
 | true=>
  apply fT
  apply o3
  apply nX
  refine aE (by trivial) ?_
  apply eG
  apply bd
  apply iT
  apply oO
  refine aE (by trivial) ?_
  apply d5
  apply au
  refine d0 (lb rfl) ?_
  refine bE _ (xh (ys:=[]) (af hli) (ag _ _)) ?_
  subst hN
  exact ⟨by rw [map_nil]; rfl,Upd.refl.new⟩
theorem wD (lc:Lk6 loc s b wh li n o) (hli:T.get li=some (nL lq)) (sz:lq.length<4000):StP c d loc T yo (fun l T'=>l=pt loc 111490630054256 (.bool (o || decide (n≤(lq.length:Int))))∧T'=T) (fun _ _=>False):=by
 generalize hN:(fun (l:Loc) (T':Hp)=>l=pt loc 111490630054256 (.bool (o || decide (n≤(lq.length:Int))))∧T'=T)=N
 refine gp fun gP gH=>?_
 obtain ⟨l1,l2,l3,l4,l5,l6,l7,l8⟩:=lc
 apply gH;clear gH
 cases o with
 | true=>
  apply fT
  apply xZ
  apply jw
  refine aE (by trivial) ?_
  apply eG
  apply bd
  subst hN
  exact ⟨rfl,rfl⟩
 | false=>
  apply fT
  apply xZ
  apply nX
  refine aE (by trivial) ?_
  apply eG
  apply bd
  apply iT
  apply oO
  refine bA ok (tG hG rfl) (by first | exact .inl ⟨_,rfl⟩ | exact .inr ⟨_,rfl⟩) ?_
  refine aC (by trivial) ?_
  apply au
  refine eF (eg hli (by rw [LQ]; exact sz)) ?_
  refine aE (by trivial) ?_
  refine bE _ (w7) ?_
  subst hN
  exact ⟨by rw [LQ]; rfl,rfl⟩
end
theorem tz {ss:List Sn} {n:Int} (h:∃ y∈ss,y.num=1) (ne:n≠1):∃ y∈rmS n ss,y.num=1:=by
 refine zEA h fun y m e=>?_
 exact ⟨y,List.mem_filter.mpr ⟨m,by rw [e,decide_eq_false fun z=>ne z.symm]; rfl⟩,e⟩
theorem jn {q:List Pl}:(opB q && !decide (lqL q=[]))=opB q:=by
 unfold opB
 cases decide (lqL q=[]) <;> cases decide (3∈q.map Pl.sp) <;> rfl
theorem x7 {q:List Pl} {i:Nat} (h:i∉q.map Pl.sp):(lqL q).filter (fun k=>!decide (k=i))=lqL q:=List.filter_eq_self.mpr fun k m=>by
 have ne:¬ k=i:=fun e=>h (by rw [← e]; exact (kU m).2)
 rw [decide_eq_false ne]; rfl
section
variable {c:Cx} (ok:Ok c) (hG:c.G=G) {d s lr sp st sd ep m b wh li k i:Nat} {T:Hp} {ss:List Sn} {es:Es} {q:List Pl} {rv n:Int} {ns:List Int} {loc:Loc} {x:Sn}
noncomputable abbrev du (s lr sp st sd b wh:Nat) (n:Int) (ns:List Int) (k:Nat):Loc→Hp→Prop:=fun l T'=>∃ q' li',St6 T' s lr sp st sd q' (k+1)∧Cl6 T' s lr b wh li' n ns (lqL q')∧Lk6 l s b wh li' n (opB q')
include ok hG
theorem uZ (S:Sd6 T s lr sp st sd ep ss es m rv q k) (cl:Cl6 T s lr b wh li n ns (lqL q)) (hk:k<9) (lc:Lk6 loc s b wh li n (opB q)) (hn:lk loc 126883592042095=some (.int (nI i))) (i3:i<3) {a:Int} (ha:lk loc 7693410=some (.int a)) (mx:x∈ss) (hx:x.num=nI i) (h2:a<2):StP c (d+15) loc T n8 (du s lr sp st sd b wh n ns k) (fun _ _=>False):=by
 generalize hN:du s lr sp st sd b wh n ns k=N
 have h2':¬ a=2:=Int.ne_of_lt h2
 have h3':¬ a=3:=Int.ne_of_lt (Int.lt_trans h2 (by decide))
 refine gp fun gP gH=>?_
 obtain ⟨l1,l2,l3,l4,l5,l6,l7,l8⟩:=id lc
 refine zEEAAA (id S.L.X) fun sf rows X _ e _=>?_
 have hs:=X.hs
 have hd:=S.L.se.hd
 rw [← e] at hd
 have dx:=dy mx S.L.se.nd
 rw [hx] at dx
 have hb0:=cl.hb
 refine zEEAEEE (rh ok hG (d:=d) S.L (S.m30 hk) mx hx i3 S.Q S.W cl.hb) fun _ T1 h1 es' m' rv' gC0=>?_
 refine zEAAAAA gC0 fun q' L1 a1 a2 a3 u1 a4=>?_
 apply gH;clear gH
 rw [hx] at h1
 have cl1:=cl.op S.L u1
 have hli1:=cl1.hli
 have lc1:Lk6 (pt loc 435661729895 (.str [])) s b wh li n (opB q):=lc.put rfl
 have m1:m'≤3 * (k+1):=Nat.le_trans a1 (Nat.add_le_add_right S.mk' 3)
 rcases a4 with ⟨hi,rfl⟩ | ⟨hi,e1,e2⟩
 ·skip
  apply dj
  apply aT
  refine aE (by trivial) ?_
  apply cx ok
  exact (by trivial)
  ·trivial
  exact tA hG rfl
  exact rfl
  refine bE true (cmt (ib hd bO) (by rw [dx]; rfl)) ?_
  refine aR aQ ?_
  apply am
  apply jK
  refine bF (az (t:=true) (aj (by exact aa rfl ‹_›)) aD (by exact cmt eY (decide_eq_true h2))) ?_
  refine aV (bp ok (by exact aa rfl ‹_›) (by trivial) (by exact tM hG rfl) (by exact rfl) (ah (by exact aa rfl ‹_›) ae) (h1)) ?_
  apply ax
  apply ax
  refine aL (bQ (bn (az (t:=true) (aj (by exact aa rfl ‹_›)) aD (by exact cmt eY (decide_eq_true h2))) (aZ (az (t:=false) (aj (by exact aa rfl ‹_›)) (aj (by exact aa rfl ‹_›)) (by exact cmt (mP (.inr hli1) tL) (by rw [pb (iE i3 hi)]; rfl)))))) ?_
  refine aL (az (t:=false) (aj (by exact aa rfl ‹_›)) aD (by exact bf (congrArg some (decide_eq_false h2')))) ?_
  refine aL (gz (bn (az (t:=false) (aj (by exact aa rfl ‹_›)) aD (by exact bf (congrArg some (decide_eq_false h2')))) (bn (bQ (aZ (az (t:=false) (aj (by exact aa rfl ‹_›)) aD (by exact bf (congrArg some (decide_eq_false h3')))))) cB))) ?_
  apply am
  refine StP.imp (gI ok hG lc1 hli1 L1.pn) (fun lx Tx hx9=>?_) (fun _ _ f=>f.elim)
  refine zA hx9 fun gR0 u9=>?_
  subst gR0
  apply ax
  subst hN
  refine ⟨q',li,⟨_,_,_,_,_,⟨L1.new u9,a3,.inr a2,m1,S.eye,S.opn,S.len⟩⟩,cl1.all u9,?_⟩
  rw [jn]; exact lc1.op
 ·have ni:i∉lqL q:=fun h=>hi (kU h).2
  have cl2:=cl1.lin (lqL q ++ [i])
  have hli2:=cl2.hli
  have L2:=L1.lst (o:=((lqL q ++ [i]).map nI).map .int) hli1 cl1.nl
  have em:((lqL q).map nI).map AV.int ++ [.int (nI i)]=((lqL q ++ [i]).map nI).map .int:=by rw [List.map_append,List.map_append]; rfl
  have en:enB n q=(opB q || decide (n≤((lqL q ++ [i]).length:Int))):=by rw [List.length_append]; rfl
  have sz:(lqL q ++ [i]).length<4000:=by rw [List.length_append]; exact Nat.lt_of_le_of_lt (Nat.add_le_add_right (cY S.Q) 1) (lb rfl)
  apply dj
  apply aT
  refine aE (by trivial) ?_
  apply cx ok
  exact (by trivial)
  ·trivial
  exact tA hG rfl
  exact rfl
  refine bE true (cmt (ib hd bO) (by rw [dx]; rfl)) ?_
  refine aR aQ ?_
  apply am
  apply jK
  refine bF (az (t:=true) (aj (by exact aa rfl ‹_›)) aD (by exact cmt eY (decide_eq_true h2))) ?_
  refine aV (bp ok (by exact aa rfl ‹_›) (by trivial) (by exact tM hG rfl) (by exact rfl) (ah (by exact aa rfl ‹_›) ae) (h1)) ?_
  apply ax
  apply ax
  refine bF (bQ (bn (az (t:=true) (aj (by exact aa rfl ‹_›)) aD (by exact cmt eY (decide_eq_true h2))) (bn (az (t:=true) (aj (by exact aa rfl ‹_›)) (aj (by exact aa rfl ‹_›)) (by exact cmt (mP (.inr hli1) tL) (by rw [sG ni]; rfl))) cB))) ?_
  refine aV (bH (aj (by exact aa rfl ‹_›)) (dq hli1) (ah (by exact aa rfl ‹_›) ae) (dw hli1 (by rw [LQ,LQ]; exact Nat.lt_of_le_of_lt (cY S.Q) (lb rfl)) cl1.pl)) ?_
  rw [em]
  apply am
  refine StP.imp (wD ok hG lc1 hli2 sz) (fun lx Tx hx9=>?_) (fun _ _ f=>f.elim)
  refine zA hx9 fun gR0 gR1=>?_
  subst gR0
  subst gR1
  apply ax
  refine aL (az (t:=false) (aj (by exact aa rfl (aa rfl ‹_›))) aD (by exact bf (congrArg some (decide_eq_false h2')))) ?_
  refine aL (gz (bn (az (t:=false) (aj (by exact aa rfl (aa rfl ‹_›))) aD (by exact bf (congrArg some (decide_eq_false h2')))) (bn (bQ (aZ (az (t:=false) (aj (by exact aa rfl (aa rfl ‹_›))) aD (by exact bf (congrArg some (decide_eq_false h3')))))) cB))) ?_
  apply am
  refine StP.imp (gI ok hG lc1.op hli2 L2.pn) (fun lx Tx hx9=>?_) (fun _ _ f=>f.elim)
  refine zA hx9 fun gR0 u9=>?_
  subst gR0
  apply ax
  subst hN
  refine ⟨q',li,⟨_,_,_,_,_,⟨L2.new u9,a3,.inr a2,m1,S.eye,fun j mj=>?_,S.len⟩⟩,?_,?_⟩
  ·rw [e1] at mj
   rcases List.mem_append.mp mj with mj | mj
   ·exact S.opn j mj
   ·cases List.mem_singleton.mp mj; exact ⟨x,mx,hx⟩
  ·rw [e1]; exact cl2.all u9
  ·rw [e2,en,show (decide (lqL q ++ [i]=[]))=false from decide_eq_false (List.append_ne_nil_of_right_ne_nil _ (List.cons_ne_nil _ _))]
   rw [Bool.not_false,Bool.and_true]
   exact lc1.op.op
theorem tU (S:Sd6 T s lr sp st sd ep ss es m rv q k) (cl:Cl6 T s lr b wh li n ns (lqL q)) (lc:Lk6 loc s b wh li n (opB q)) (hn:lk loc 126883592042095=some (.int (nI i))) (no:nI i∉ss.map Sn.num):StP c (d+15) loc T n8 (du s lr sp st sd b wh n ns k) (fun _ _=>False):=by
 generalize hN:du s lr sp st sd b wh n ns k=N
 refine gp fun gP gH=>?_
 obtain ⟨l1,l2,l3,l4,l5,l6,l7,l8⟩:=id lc
 refine zEEAAA (id S.L.X) fun sf rows X _ e _=>?_
 apply gH;clear gH
 have hs:=X.hs
 have hd:=S.L.se.hd
 rw [← e] at hd
 apply dj
 apply aT
 refine aE (by trivial) ?_
 apply cx ok
 exact (by trivial)
 ·trivial
 exact tA hG rfl
 exact rfl
 refine bE false (cmt (ib hd bO) (by rw [oU no]; rfl)) ?_
 apply ax
 subst hN
 exact ⟨q,li,⟨_,_,_,_,_,S.up⟩,cl,lc⟩
theorem ud (S:Sd6 T s lr sp st sd ep ss es m rv q k) (cl:Cl6 T s lr b wh li n ns (lqL q)) (lc:Lk6 loc s b wh li n (opB q)) (hn:lk loc 126883592042095=some (.int (nI i))) {a v:Int} (ha:lk loc 7693410=some (.int a)) (hv:lk loc 440073544311=some (.int v)) (mx:x∈ss) (hx:x.num=nI i) (h2:¬ a<2) (h3:¬ a=2) (h3':a=3) (h4:¬ Int.fdiv v 12=0):StP c (d+15) loc T n8 (du s lr sp st sd b wh n ns k) (fun _ _=>False):=by
 generalize hN:du s lr sp st sd b wh n ns k=N
 refine gp fun gP gH=>?_
 obtain ⟨l1,l2,l3,l4,l5,l6,l7,l8⟩:=id lc
 refine zEEAAA (id S.L.X) fun sf rows X _ e _=>?_
 apply gH;clear gH
 have hs:=X.hs
 have hd:=S.L.se.hd
 rw [← e] at hd
 have dx:=dy mx S.L.se.nd
 rw [hx] at dx
 have lc1:Lk6 (pt loc 435661729895 (.str [])) s b wh li n (opB q):=lc.put rfl
 apply dj
 apply aT
 refine aE (by trivial) ?_
 apply cx ok
 exact (by trivial)
 ·trivial
 exact tA hG rfl
 exact rfl
 refine bE true (cmt (ib hd bO) (by rw [dx]; rfl)) ?_
 refine aR aQ ?_
 apply am
 apply jK
 refine hW (az (t:=false) (aj (by exact aa rfl ‹_›)) aD (by exact cmt eY (decide_eq_false h2))) ?_
 refine hW (az (t:=false) (aj (by exact aa rfl ‹_›)) aD (by exact bf (congrArg some (decide_eq_false h3)))) ?_
 refine aL (az (t:=false) (bB (aj (by exact aa rfl ‹_›)) aD (jr (by decide) (by decide))) aD (by exact bf (congrArg some (decide_eq_false h4)))) ?_
 apply ax
 apply ax
 apply ax
 refine aL (bQ (aZ (az (t:=false) (aj (by exact aa rfl ‹_›)) aD (by exact cmt eY (decide_eq_false h2))))) ?_
 refine aL (az (t:=false) (aj (by exact aa rfl ‹_›)) aD (by exact bf (congrArg some (decide_eq_false h3)))) ?_
 refine aL (gz (bn (az (t:=false) (aj (by exact aa rfl ‹_›)) aD (by exact bf (congrArg some (decide_eq_false h3)))) (bn (bQ (bn (az (t:=true) (aj (by exact aa rfl ‹_›)) aD (by exact bf (congrArg some (decide_eq_true h3')))) (aZ (az (t:=false) (bB (aj (by exact aa rfl ‹_›)) aD (jr (by decide) (by decide))) aD (by exact bf (congrArg some (decide_eq_false h4))))))) cB))) ?_
 apply am
 refine StP.imp (gI ok hG lc1 cl.hli S.L.pn) (fun lx Tx hx9=>?_) (fun _ _ f=>f.elim)
 refine zA hx9 fun gR0 u9=>?_
 subst gR0
 apply ax
 subst hN
 refine ⟨q,li,⟨_,_,_,_,_,(S.new u9).up⟩,cl.all u9,?_⟩
 rw [jn]; exact lc1.op
end
section
variable {c:Cx} (ok:Ok c) (hG:c.G=G) {d s lr sp st sd ep m b wh li k i:Nat} {T:Hp} {ss:List Sn} {es:Es} {q:List Pl} {rv n:Int} {ns:List Int} {loc:Loc} {x:Sn}
include ok hG
theorem uG (S:Sd6 T s lr sp st sd ep ss es m rv q k) (cl:Cl6 T s lr b wh li n ns (lqL q)) (hk:k<9) (lc:Lk6 loc s b wh li n (opB q)) (hn:lk loc 126883592042095=some (.int (nI i))) (i3:i<3) {a v:Int} (ha:lk loc 7693410=some (.int a)) (hv:lk loc 440073544311=some (.int v)) (mx:x∈ss) (hx:x.num=nI i) (h2:¬ a<2) (h3:¬ a=2) (h3':a=3) (h4:Int.fdiv v 12=0):StP c (d+15) loc T n8 (du s lr sp st sd b wh n ns k) (fun _ _=>False):=by
 generalize hN:du s lr sp st sd b wh n ns k=N
 refine gp fun gP gH=>?_
 obtain ⟨l1,l2,l3,l4,l5,l6,l7,l8⟩:=id lc
 refine zEEAAA (id S.L.X) fun sf rows X _ e _=>?_
 have hs:=X.hs
 have hd:=S.L.se.hd
 rw [← e] at hd
 have dx:=dy mx S.L.se.nd
 rw [hx] at dx
 have lc1:Lk6 (pt loc 435661729895 (.str [])) s b wh li n (opB q):=lc.put rfl
 refine zEEAEEE (rA ok hG (d:=d+6) (i:=i) S.L (Nat.lt_trans (S.m30 hk) (lb rfl)) mx hx i3 S.Q S.W (Nat.lt_of_le_of_lt S.len (lb rfl))) fun v1 T1 h1 es' m' rv' gC0=>?_
 refine zAAA gC0 fun L1 a1 a2 u1=>?_
 rw [hx] at h1
 have cl1:=cl.op S.L u1
 have hli1:=cl1.hli
 refine zEAA (iK ok hG (d:=d+15) (T0:=T1) (A:=T1.n) (i:=i) (lq:=lqL q) (Nat.le_refl _) L1.pn (Nat.lt_of_le_of_lt (cY S.Q) (lb rfl)) cl1.hli (lqL q) [] (aq T1 (.list [])) (rm [bq,6713200] (pt loc 435661729895 (.str []))) rfl Upd.refl.new (ag _ _) (cG rfl (aa rfl hn))) fun T2 hc g2 u2=>?_
 apply gH;clear gH
 rw [← ji] at g2
 have L2:=L1.new u2
 have cl2:=(cl1.all u2).sw g2 (Nat.ne_of_gt (jV L1)) (Nat.ne_of_lt (aP cl1.hw)) L1.pn
 have hli2:=cl2.hli
 apply dj
 apply aT
 refine aE (by trivial) ?_
 apply cx ok
 exact (by trivial)
 ·trivial
 exact tA hG rfl
 exact rfl
 refine bE true (cmt (ib hd bO) (by rw [dx]; rfl)) ?_
 refine aR aQ ?_
 apply am
 apply jK
 refine hW (az (t:=false) (aj (by exact aa rfl ‹_›)) aD (by exact cmt eY (decide_eq_false h2))) ?_
 refine hW (az (t:=false) (aj (by exact aa rfl ‹_›)) aD (by exact bf (congrArg some (decide_eq_false h3)))) ?_
 refine bF (az (t:=true) (bB (aj (by exact aa rfl ‹_›)) aD (jr (by decide) (by decide))) aD (by exact bf (congrArg some (decide_eq_true h4)))) ?_
 refine aV (bp ok (by exact aa rfl ‹_›) (by trivial) (by exact tM hG rfl) (by exact rfl) (ah (by exact aa rfl ‹_›) ae) (h1)) ?_
 apply ax
 apply ax
 apply ax
 apply ax
 refine aL (bQ (aZ (az (t:=false) (aj (by exact aa rfl ‹_›)) aD (by exact cmt eY (decide_eq_false h2))))) ?_
 refine aL (az (t:=false) (aj (by exact aa rfl ‹_›)) aD (by exact bf (congrArg some (decide_eq_false h3)))) ?_
 refine bF (gz (bn (az (t:=false) (aj (by exact aa rfl ‹_›)) aD (by exact bf (congrArg some (decide_eq_false h3)))) (aZ (bQ (bn (az (t:=true) (aj (by exact aa rfl ‹_›)) aD (by exact bf (congrArg some (decide_eq_true h3')))) (bn (az (t:=true) (bB (aj (by exact aa rfl ‹_›)) aD (jr (by decide) (by decide))) aD (by exact bf (congrArg some (decide_eq_true h4)))) cB)))))) ?_
 refine o9 (aj (by exact aa rfl ‹_›)) (ikL hli1) (hc) ?_
 apply ax
 apply am
 refine StP.imp (gI ok hG (lc1.lin (li':=T1.n)) hli2 L2.pn) (fun lx Tx hx9=>?_) (fun _ _ f=>f.elim)
 refine zA hx9 fun gR0 u9=>?_
 subst gR0
 apply ax
 subst hN
 refine ⟨rmN i q,T1.n,⟨_,_,_,_,_,⟨L2.new u9,S.Q.del,a2,Nat.le_trans a1 (Nat.le_trans (Nat.succ_le_succ S.mk') (Nat.add_le_add_left (lb rfl:1≤3) (3 * k))),tz S.eye (by rw [hx]; exact fun e=>Nat.succ_ne_zero i (Nat.succ.inj (Int.ofNat_inj.mp (e:((i+2:Nat):Int)=((1:Nat):Int))))),fun j mj=>?_,Nat.le_trans (List.length_filter_le _ _) S.len⟩⟩,cl2.all u9,?_⟩
 ·rw [ji] at mj
  refine zA (List.mem_filter.mp mj) fun mj nj=>?_
  refine zEA (S.opn j mj) fun y my ey=>?_
  refine ⟨y,List.mem_filter.mpr ⟨my,?_⟩,ey⟩
  rw [ey,hx,decide_eq_false fun z=>?_]
  ·rfl
  ·rw [decide_eq_true (jf z)] at nj; cases nj
 ·rw [ot i3]
  exact lc1.lin.op
theorem ub (S:Sd6 T s lr sp st sd ep ss es m rv q k) (cl:Cl6 T s lr b wh li n ns (lqL q)) (hk:k<9) (lc:Lk6 loc s b wh li n (opB q)) (hn:lk loc 126883592042095=some (.int (nI i))) (i3:i<3) {a:Int} (ha:lk loc 7693410=some (.int a)) (mx:x∈ss) (hx:x.num=nI i) (h2:¬ a<2) (h3:a=2) (hi:i∈q.map Pl.sp):StP c (d+15) loc T n8 (du s lr sp st sd b wh n ns k) (fun _ _=>False):=by
 generalize hN:du s lr sp st sd b wh n ns k=N
 refine gp fun gP gH=>?_
 obtain ⟨l1,l2,l3,l4,l5,l6,l7,l8⟩:=id lc
 refine zEEAAA (id S.L.X) fun sf rows X _ e _=>?_
 apply gH;clear gH
 have hs:=X.hs
 have hd:=S.L.se.hd
 rw [← e] at hd
 have dx:=dy mx S.L.se.nd
 rw [hx] at dx
 have hb0:=cl.hb
 have lc1:Lk6 (pt loc 435661729895 (.str [])) s b wh li n (opB q):=lc.put rfl
 have B:Bs es q:=S.W.elim (fun w=>by rw [w.2] at hi; cases hi) id
 refine zEEAEEA (sJ ok hG (d:=d) (i:=i) S.L (S.m30 hk) mx hx i3 S.Q B cl.hb hi) fun v1 T1 h1 es' q' L1 gC0=>?_
 refine zAAAA gC0 fun a2 a3 u1 e1 e2=>?_
 rw [hx] at h1
 have cl1:=cl.op S.L u1
 have hli1:=cl1.hli
 refine zEAA (iK ok hG (d:=d+15) (T0:=T1) (A:=T1.n) (i:=i) (lq:=lqL q) (Nat.le_refl _) L1.pn (Nat.lt_of_le_of_lt (cY S.Q) (lb rfl)) cl1.hli (lqL q) [] (aq T1 (.list [])) (rm [bq,6713200] (pt loc 435661729895 (.str []))) rfl Upd.refl.new (ag _ _) (cG rfl (aa rfl hn))) fun T2 hc g2 u2=>?_
 rw [← ji] at g2
 have L2:=L1.new u2
 have cl2:=(cl1.all u2).sw g2 (Nat.ne_of_gt (jV L1)) (Nat.ne_of_lt (aP cl1.hw)) L1.pn
 have hli2:=cl2.hli
 apply dj
 apply aT
 refine aE (by trivial) ?_
 apply cx ok
 exact (by trivial)
 ·trivial
 exact tA hG rfl
 exact rfl
 refine bE true (cmt (ib hd bO) (by rw [dx]; rfl)) ?_
 refine aR aQ ?_
 apply am
 apply jK
 refine hW (az (t:=false) (aj (by exact aa rfl ‹_›)) aD (by exact cmt eY (decide_eq_false h2))) ?_
 refine bF (az (t:=true) (aj (by exact aa rfl ‹_›)) aD (by exact bf (congrArg some (decide_eq_true h3)))) ?_
 refine aV (bp ok (by exact aa rfl ‹_›) (by trivial) (by exact tM hG rfl) (by exact rfl) (ah (by exact aa rfl ‹_›) ae) (h1)) ?_
 apply ax
 apply ax
 apply ax
 refine aL (bQ (aZ (az (t:=false) (aj (by exact aa rfl ‹_›)) aD (by exact cmt eY (decide_eq_false h2))))) ?_
 refine bF (az (t:=true) (aj (by exact aa rfl ‹_›)) aD (by exact bf (congrArg some (decide_eq_true h3)))) ?_
 refine aL (az (t:=false) (fB (aj (by exact ak)) aQ (by exact bf (d8 (by intro h; cases h)))) (fB (aj (by exact aa rfl ‹_›)) (aj (by exact aa rfl ‹_›)) (by exact cmt (mP (.inr hli1) tL) (by rw [pb (iE i3 hi)]))) (by exact iu (t:=true) (congrArg some (decide_eq_true rfl)))) ?_
 apply ax
 refine bF (gz (aZ (az (t:=true) (aj (by exact aa rfl ‹_›)) aD (by exact bf (congrArg some (decide_eq_true h3)))))) ?_
 refine o9 (aj (by exact aa rfl ‹_›)) (ikL hli1) (hc) ?_
 apply ax
 apply am
 refine StP.imp (gI ok hG (lc1.lin (li':=T1.n)) hli2 L2.pn) (fun lx Tx hx9=>?_) (fun _ _ f=>f.elim)
 refine zA hx9 fun gR0 u9=>?_
 subst gR0
 apply ax
 subst hN
 refine ⟨q',T1.n,⟨_,_,_,_,_,⟨L2.new u9,a3,.inr a2,Nat.le_trans (Nat.succ_le_succ S.mk') (Nat.add_le_add_left (lb rfl:1≤3) (3 * k)),S.eye,fun j mj=>?_,S.len⟩⟩,?_,?_⟩
 ·rw [e1,ji] at mj
  exact S.opn j (List.mem_filter.mp mj).1
 ·rw [e1]; exact cl2.all u9
 ·rw [e2]
  exact lc1.lin.op
theorem uD (xo:jG c 48 48) (S:Sd6 T s lr sp st sd ep ss es m rv q k) (cl:Cl6 T s lr b wh li n ns (lqL q)) (lc:Lk6 loc s b wh li n (opB q)) (hn:lk loc 126883592042095=some (.int (nI i))) (i3:i<3) {a:Int} (ha:lk loc 7693410=some (.int a)) (mx:x∈ss) (hx:x.num=nI i) (h2:¬ a<2) (h3:a=2) (hi:i∉q.map Pl.sp):StP c (d+15) loc T n8 (du s lr sp st sd b wh n ns k) (fun _ _=>False):=by
 generalize hN:du s lr sp st sd b wh n ns k=N
 refine gp fun gP gH=>?_
 obtain ⟨l1,l2,l3,l4,l5,l6,l7,l8⟩:=id lc
 refine zEEAAA (id S.L.X) fun sf rows X _ e _=>?_
 apply gH;clear gH
 have hs:=X.hs
 have hd:=S.L.se.hd
 rw [← e] at hd
 have dx:=dy mx S.L.se.nd
 rw [hx] at dx
 have hb0:=cl.hb
 have hl:=to ok hG (d:=d) xo S.L mx hx i3 S.Q S.W cl.hb hi
 rw [hx] at hl
 have ni:i∉lqL q:=fun h=>hi (kU h).2
 apply dj
 apply aT
 refine aE (by trivial) ?_
 apply cx ok
 exact (by trivial)
 ·trivial
 exact tA hG rfl
 exact rfl
 refine bE true (cmt (ib hd bO) (by rw [dx]; rfl)) ?_
 apply am
 apply fT
 apply aY
 apply am
 refine rp ok xo (tG hG rfl) ?_
 apply eA
 apply nz
 apply aT
 refine aE (by exact aa rfl ‹_›) ?_
 apply bw
 refine bE false (cmt eY (decide_eq_false h2)) ?_
 apply eA
 apply nz
 apply aT
 refine aE (by exact aa rfl ‹_›) ?_
 apply bw
 refine bE true (bf (congrArg some (decide_eq_true h3))) ?_
 apply eA
 apply rV
 apply w8 ok
 exact (by exact aa rfl ‹_›)
 ·trivial
 exact tM hG rfl
 exact rfl
 refine aC (by exact aa rfl ‹_›) ?_
 apply au
 refine lO.imp (hl) ?_
 rintro r9 T1 ⟨g9,L1,u1⟩
 refine ⟨_,_,g9,rfl,?_⟩
 have cl1:=cl.op S.L u1
 have hli1:=cl1.hli
 have lc1:Lk6 (rm [495807853414] (pt (pt (pt loc 435661729895 (.str [])) 495807853414 (.ref r9)) 435661729895 (.str [110,111,116,32,105,110,115,105,100,101]))) s b wh li n (opB q):=(((lc.put rfl).put rfl).put rfl).rm rfl
 refine zEAA (iK ok hG (d:=d+15) (T0:=T1) (A:=T1.n) (i:=i) (lq:=lqL q) (Nat.le_refl _) L1.pn (Nat.lt_of_le_of_lt (cY S.Q) (lb rfl)) cl1.hli (lqL q) [] (aq T1 (.list [])) (rm [bq,6713200] (rm [495807853414] (pt (pt (pt loc 435661729895 (.str [])) 495807853414 (.ref r9)) 435661729895 (.str [110,111,116,32,105,110,115,105,100,101])))) rfl Upd.refl.new (ag _ _) (cG rfl (cG rfl (aa rfl (aa rfl (aa rfl hn)))))) fun T2 hc g2 u2=>?_
 rw [x7 hi] at g2
 have L2:=L1.new u2
 have cl2:=(cl1.all u2).sw g2 (Nat.ne_of_gt (jV L1)) (Nat.ne_of_lt (aP cl1.hw)) L1.pn
 have hli2:=cl2.hli
 refine aL (bQ (aZ (az (t:=false) (aj (by exact dW rfl (aa rfl (aa rfl (aa rfl ‹_›))))) aD (by exact cmt eY (decide_eq_false h2))))) ?_
 refine bF (az (t:=true) (aj (by exact dW rfl (aa rfl (aa rfl (aa rfl ‹_›))))) aD (by exact bf (congrArg some (decide_eq_true h3)))) ?_
 refine aL (az (t:=false) (fB (aj (by exact dW rfl ak)) aQ (by exact bf (congrArg some (decide_eq_true rfl)))) (fB (aj (by exact dW rfl (aa rfl (aa rfl (aa rfl ‹_›))))) (aj (by exact dW rfl (aa rfl (aa rfl (aa rfl ‹_›))))) (by exact cmt (mP (.inr hli1) tL) (by rw [sG ni]))) (by exact iu (t:=true) (congrArg some (decide_eq_true rfl)))) ?_
 apply ax
 refine bF (gz (aZ (az (t:=true) (aj (by exact dW rfl (aa rfl (aa rfl (aa rfl ‹_›))))) aD (by exact bf (congrArg some (decide_eq_true h3)))))) ?_
 refine o9 (aj (by exact dW rfl (aa rfl (aa rfl (aa rfl ‹_›))))) (ikL hli1) (hc) ?_
 apply ax
 apply am
 refine StP.imp (gI ok hG (lc1.lin (li':=T1.n)) hli2 L2.pn) (fun lx Tx hx9=>?_) (fun _ _ f=>f.elim)
 refine zA hx9 fun gR0 u9=>?_
 subst gR0
 apply ax
 subst hN
 refine ⟨q,T1.n,⟨_,_,_,_,_,({ S with L:=L2.new u9 }:Sd6 _ s lr sp st sd ep ss es m rv q k).up⟩,cl2.all u9,?_⟩
 rw [jn]; exact lc1.lin.op
theorem wV (xo:jG c 48 48) (S:Sd6 T s lr sp st sd ep ss es m rv q k) (cl:Cl6 T s lr b wh li n ns (lqL q)) (hk:k<9) (lc:Lk6 loc s b wh li n (opB q)) (hn:lk loc 126883592042095=some (.int (nI i))) (i3:i<3) {a v:Int} (ha:lk loc 7693410=some (.int a)) (hv:lk loc 440073544311=some (.int v)) (a4:a<4):StP c (d+15) loc T n8 (du s lr sp st sd b wh n ns k) (fun _ _=>False):=by
 by_cases h:nI i∈ss.map Sn.num
 ·obtain ⟨x,mx,hx⟩:=List.mem_map.mp h
  by_cases h2:a<2
  ·exact uZ ok hG S cl hk lc hn i3 ha mx hx h2
  ·by_cases h3:a=2
   ·by_cases hi:i∈q.map Pl.sp
    ·exact ub ok hG S cl hk lc hn i3 ha mx hx h2 h3 hi
    ·exact uD ok hG xo S cl lc hn i3 ha mx hx h2 h3 hi
   ·have h3':a=3:=Int.le_antisymm (Int.le_of_lt_add_one a4) (Int.lt_iff_le_and_ne.mpr ⟨Int.not_lt.mp h2,Ne.symm h3⟩)
    by_cases h4:Int.fdiv v 12=0
    ·exact uG ok hG S cl hk lc hn i3 ha hv mx hx h2 h3 h3' h4
    ·exact ud ok hG S cl lc hn ha hv mx hx h2 h3 h3' h4
 ·exact tU ok hG S cl lc hn h
end
noncomputable abbrev xz:PSs:=(.cons (.asg 440073544311 (.bin .mod (.sub (.loc 129129977701492) (.bin .add (.int 2) (.loc 108))) (.int 36))) (.cons (.asg 126883592042095 (.sub (.loc 7367032) (.bin .mod (.loc 440073544311) (.int 3)))) (.cons (.asg 7693410 (.bin .mod (.bin .fdiv (.loc 440073544311) (.int 3)) (.int 4))) (.cons (.ite (.cmp .isin (.loc 126883592042095) (.attr (.loc 440023414132) 8390048233337153140)) (.cons (.asg 435661729895 (.str [])) (.cons (.try (.cons (.ite (.cmp .lt (.loc 7693410) (.int 2)) (.cons (.expr (.meth (.loc 32482229711233635) 495640211302 (.cons (.loc 126883592042095) .nil))) .nil) (.cons (.ite (.cmp .eq (.loc 7693410) (.int 2)) (.cons (.expr (.meth (.loc 32482229711233635) 440089601645 (.cons (.loc 126883592042095) .nil))) .nil) (.cons (.ite (.cmp .eq (.bin .fdiv (.loc 440073544311) (.int 12)) (.int 0)) (.cons (.expr (.meth (.loc 440023414132) 440040189284 (.cons (.loc 126883592042095) .nil))) .nil) .nil) .nil)) .nil)) .nil) 545146499936607190152532 495807853414 (.cons (.asg 435661729895 (.attr (.loc 495807853414) 1702064248)) .nil)) (.cons (.ite (.and (.cons (.cmp .lt (.loc 7693410) (.int 2)) (.cons (.cmp .notin (.loc 126883592042095) (.loc 112585763745642)) .nil))) (.cons (.expr (.meth (.loc 112585763745642) 111529134485858 (.cons (.loc 126883592042095) .nil))) (.cons (.asg 111490630054256 (.or (.cons (.loc 111490630054256) (.cons (.cmp .ge (.call (.glb 7300717) (.cons (.loc 112585763745642) .nil)) (.loc 504381206628)) .nil)))) .nil)) .nil) (.cons (.ite (.cmp .eq (.loc 7693410) (.int 2)) (.cons (.ite (.cmp .ne (.cmp .eq (.loc 435661729895) (.str [110,111,116,32,105,110,115,105,100,101])) (.cmp .notin (.loc 126883592042095) (.loc 112585763745642))) (.cons (.ret (.bool false)) .nil) .nil) .nil) .nil) (.cons (.ite (.or (.cons (.cmp .eq (.loc 7693410) (.int 2)) (.cons (.and (.cons (.cmp .eq (.loc 7693410) (.int 3)) (.cons (.cmp .eq (.bin .fdiv (.loc 440073544311) (.int 12)) (.int 0)) .nil))) .nil))) (.cons (.asgC 112585763745642 (.loc 6713200) [6713200] (.loc 112585763745642) (.cons (.cmp .ne (.loc 6713200) (.loc 126883592042095)) .nil)) .nil) .nil) (.cons (.asg 111490630054256 (.and (.cons (.loc 111490630054256) (.cons (.cmp .ne (.loc 112585763745642) (.list .nil)) .nil)))) .nil)))))) .nil) (.cons (.ite (.cmp .ne (.tuple (.cons (.meth (.loc 32482229711233635) 112585763745642 (.cons (.loc 6716006) .nil)) (.cons (.meth (.loc 32482229711233635) 31356359817589866 (.cons (.loc 6716006) .nil)) (.cons (.meth (.loc 32482229711233635) 8314320482100868202 (.cons (.loc 6716006) .nil)) .nil)))) (.tuple (.cons (.call (.glb 111490731569268) (.cons (.loc 112585763745642) .nil)) (.cons (.loc 111490630054256) (.cons (.cmp .eq (.loc 112585763745642) (.list .nil)) .nil))))) (.cons (.ret (.bool false)) .nil) .nil) .nil)))))
theorem pp (v:Int) (n:Nat) (h:0<n):∃ k:Nat,k<n∧Int.fmod v n=(k:Int):=by
 have h0:(0:Int)<n:=Int.ofNat_lt.mpr h
 have h1:=Int.toNat_of_nonneg (Int.fmod_nonneg_of_pos v h0)
 exact ⟨(Int.fmod v n).toNat,Int.ofNat_lt.mp (h1.symm▸Int.fmod_lt_of_pos v h0),h1.symm⟩
section
variable {c:Cx} (ok:Ok c) (hG:c.G=G) {d s lr sp st sd b wh li k:Nat} {T:Hp} {q:List Pl} {n:Int} {ns:List Int} {loc:Loc} (xo:jG c 48 48)
include ok hG xo
theorem xm {v0:Int} (S0:St6 T s lr sp st sd q k) (cl:Cl6 T s lr b wh li n ns (lqL q)) (hk:k<9) (lc0:Lk6 loc s b wh li n (opB q)) (hv:ns[k+2]?=some v0):ExP c (d+15) (pt loc 108 (.int (k:Int))) T xz (du s lr sp st sd b wh n ns k) (fun _ _=>False):=by
 generalize hN:du s lr sp st sd b wh n ns k=N
 refine gp fun gP gH=>?_
 refine zEEEEE S0 fun ep ss es m rv S=>?_
 have lc:Lk6 (pt loc 108 (.int (k:Int))) s b wh li n (opB q):=lc0.put rfl
 obtain ⟨l1,l2,l3,l4,l5,l6,l7,l8⟩:=id lc
 refine zEA (pp v0 36 (by decide)) fun w w36 hw=>?_
 refine zEA (pp (w:Int) 3 (by decide)) fun i i3 hi=>?_
 apply gH;clear gH
 have a4:Int.fmod (Int.fdiv (w:Int) 3) 4<4:=Int.fmod_lt_of_pos _ (by decide)
 have scr:=cl.scr
 have lc3:Lk6 (pt (pt (pt (pt loc 108 (.int (k:Int))) 440073544311 (.int (w:Int))) 126883592042095 (.int (nI i))) 7693410 (.int (Int.fmod (Int.fdiv (w:Int) 3) 4))) s b wh li n (opB q):=((lc.put rfl).put rfl).put rfl
 refine aR (bB (di (aj (by trivial)) (bB aD (aj (by exact ak)) (yh (z:=((k+2:Nat):Int)) (by rw [Int.add_comm]; rfl))) (bR (j:=k+2) (v:=.int v0) scr (by rw [List.getElem?_map,hv]; rfl) (Nat.lt_trans (Nat.add_lt_add_right hk 2) (lb rfl)))) aD (tV (by decide) hw)) ?_
 refine aR (di (aj (by exact aa rfl ‹_›)) (bB (aj (by exact ak)) aD (tV (by decide) hi)) (bR (v:=.int (nI i)) (j:=i) cl.hw (wr i3) (Nat.lt_trans i3 (lb rfl)))) ?_
 refine aR (bB (bB (aj (by exact aa rfl ak)) aD (jr (by decide) (by decide))) aD (rS (by decide))) ?_
 apply am
 refine StP.imp (wV ok hG (d:=d) xo S cl hk lc3 (aa rfl ak) i3 ak (aa rfl (aa rfl ak)) a4) (fun lx Tx hx9=>?_) (fun _ _ f=>f.elim)
 refine gp fun gP gH=>?_
 refine zEEAA hx9 fun q1 li1 gN0 cl1 lc1=>?_
 obtain ⟨ep1,ss1,es1,m1,rv1,S1⟩:=gN0
 obtain ⟨j1,j2,j3,j4,j5,j6,j7,j8⟩:=id lc1
 refine zEA S1.eye fun ye mye eye=>?_
 have hb1:=cl1.hb
 refine zEEAEELA (dL ok hG (d:=d+7) S1.L mye S1.Q S1.W cl1.hb) fun T2 r2 Lx h2 g2 gC0=>?_
 refine zAAAA gC0 fun pm rise L2 u2 hr2=>?_
 have cl2:=cl1.op S1.L u2
 have hb2:=cl2.hb
 refine zEEALA (dn ok hG (d:=d+6) L2 mye S1.Q S1.W cl2.hb) fun T3 h3 L3 u3=>?_
 have cl3:=cl2.op L2 u3
 have hb3:=cl3.hb
 refine zEEALA (mN ok hG (d:=d+6) L3 mye S1.Q S1.W cl3.hb) fun T4 h4 L4 u4=>?_
 apply gH;clear gH
 have cl4:=cl3.op L3 u4
 rw [eye] at h2 h3 h4
 have r2l:r2≠lr:=Nat.ne_of_gt (Nat.lt_of_lt_of_le (jV S1.L) hr2)
 have g4:=L3.kl r2l (L2.kl r2l g2 u3) u4
 have hli4:=cl4.hli
 have l4q:((lqL q1).map nI).length<64:=by rw [LQ]; exact Nat.lt_of_le_of_lt (cY S1.Q) (lb rfl)
 have srt:Srt ilt (Lx.map nI):=List.pairwise_map.mpr (rise.imp fun {a b} h=>decide_eq_false (Int.not_lt.mpr (Int.ofNat_le.mpr (Nat.add_le_add_right (Nat.le_of_lt h) 2))))
 refine aL (az (t:=false) (bW (ai (bp ok (by trivial) (by trivial) (by exact tM hG rfl) (by exact rfl) (ah (by trivial) ae) (h2)) (ai (bp ok (by trivial) (by trivial) (by exact tM hG rfl) (by exact rfl) (ah (by trivial) ae) (h3)) (ai (bp ok (by trivial) (by trivial) (by exact tM hG rfl) (by exact rfl) (ah (by trivial) ae) (h4)) ae))) (lb rfl)) (bW (ai (aN ok (tG hG rfl) (.inl ⟨_,rfl⟩) (ah (by trivial) ae) (o8 (l:=(lqL q1).map nI) (m:=Lx.map nI) (iZ (af hli4) (by rw [LQ]; exact l4q)) l4q (pm.map nI) srt)) (ah (by trivial) (ai (fB (aj (by trivial)) (cT ae (lb rfl)) (by exact cmt (ph (ys:=[]) (af (af (af hli4))) (ag _ _)) map_nil)) ae))) (lb rfl)) (by exact vg (f:=1) (lb rfl) (.inl ⟨af (af (af (ag _ _))),ag _ _⟩) (gj (qY (.inr ⟨af (af (af (af g4))),af (af (ag _ _))⟩) mY) (gj kJ (gj kJ lh))))) ?_
 apply ax
 subst hN
 have uz:=Upd.refl (n:=T4.n) (P:=All) (T:=T4)
 exact ⟨q1,li1,⟨_,_,_,_,_,{ S1 with L:=L4.new uz.new.new.new.new }⟩,cl4.all uz.new.new.new.new,lc1⟩
theorem xJ {src len:Nat} (h9:len≤9) (h11:11≤ns.length) (j:Nat):∀ (i:Nat) (T:Hp) (loc:Loc) (q:List Pl) (li:Nat),i+j=len→St6 T s lr sp st sd q i→Cl6 T s lr b wh li n ns (lqL q)→Lk6 loc s b wh li n (opB q)→LoP c (d+15) loc T [108] src (.range 0 len) i xz (fun l T'=>∃ q' li',St6 T' s lr sp st sd q' len∧Cl6 T' s lr b wh li' n ns (lqL q')∧Lk6 l s b wh li' n (opB q')) (fun _ _=>False):=by
 induction j with
 | zero=>
  intro i T loc q li hi S cl lc
  cases hi
  exact lC (.inr ⟨Nat.le_refl _,rfl⟩) ⟨q,li,S,cl,lc⟩
 | succ j ih=>
  intro i T loc q li hi S cl lc
  have il:i<len:=hi▸Nat.lt_add_of_pos_right (Nat.succ_pos j)
  have i9:i<9:=Nat.lt_of_lt_of_le il h9
  have hv:ns[i+2]?=some (ns[i+2]'(Nat.lt_of_lt_of_le (Nat.add_lt_add_right i9 2) h11)):=List.getElem?_eq_getElem _
  refine kL (y:=.int (i:Int)) (.inl ⟨il,by rw [Int.zero_add]⟩) aX ?_
  refine (xm ok hG xo (d:=d) S cl i9 lc hv).imp (fun l T1 h=>?_) fun _ _ f=>f
  refine zEEAA h fun q' li' S' cl' lc'=>?_
  exact ih (i+1) T1 l q' li' ((Nat.succ_add i j).trans hi) S' cl' lc'
end
structure O8 (T:Hp) (s lr sp st sd:Nat) (n:Int) (ep:Nat) (ss:List Sn):Prop where
 X:∃ sf,aM T s lr sp st sf [] cS∧sf.ses=sd∧sf.cnt=n∧sf.rev=0∧sf.wat≠sd∧sf.lea≠sd
 se:bu T sd ep ss
 pd:1≤sd
 pn:1≤T.n
noncomputable abbrev uK (k:Nat):List Nat:=[117] ++ bL k
theorem rg {k:Nat}:uK k≠[]∧uK k≠[42]:=⟨List.cons_ne_nil _ _,fun h=>absurd (List.head_eq_of_cons_eq h) (by decide)⟩
section
variable {c:Cx} (ok:Ok c) (hG:c.G=G) {d s lr sp st sd ep k:Nat} {T:Hp} {ss:List Sn} {n:Int} {loc:Loc} {u:List Nat}
theorem O8.new {T':Hp} (O:O8 T s lr sp st sd n ep ss) (v:Upd T.n All T T'):O8 T' s lr sp st sd n ep ss:=⟨let ⟨sf,X,h⟩:=O.X; ⟨sf,X.new v,h⟩,O.se.new v,O.pd,Nat.le_trans O.pn v.1⟩
theorem O8.lst {r:Nat} {l o:List AV} (O:O8 T s lr sp st sd n ep ss) (g:T.get r=some (.list l)) (ne:r≠lr):O8 (aI T r (.list o)) s lr sp st sd n ep ss:=⟨let ⟨sf,X,h⟩:=O.X; ⟨sf,X.wl g ne,h⟩,O.se.off g rfl rfl,O.pd,O.pn⟩
include ok hG
theorem vA (O:O8 T s lr sp st sd n ep ss) (h1:u≠[]) (h2:u≠[42]) (hn:n+1∉ss.map Sn.num) (sz:ss.length<60):CaP c T 487 [.ref s,.str u,.int 90] (d+3) fun v T'=>v=.int (n+1)∧∃ x:Sn,x.num=n+1∧x.u=u∧O8 T' s lr sp st sd (n+1) (ep+1) (ss ++ [x])∧Upd T.n (fun r _=>r≠s∧r≠sd) T T':=by
 refine zEAAAAA O.X fun sf X gR0 gR1 e3 e4 e5=>?_
 subst gR0
 subst gR1
 refine zEEALEAA (uc ok hG (d:=d) (u:=u) (args:=[.ref s,.str u,.int 90]) (tm:=90) rfl (by decide) X O.se h1 h2 hn sz e4 e5 O.pd (List.cons_ne_nil _ _) O.pn) fun T1 x h1 xn xu gC0=>?_
 refine zAAA gC0 fun xr X1 se1 u1=>?_
 exact ⟨_,T1,h1,rfl,x,xn,xu,⟨⟨_,X1,rfl,rfl,e3,e4,e5⟩,se1,O.pd,Nat.le_trans O.pn u1.1⟩,u1⟩
noncomputable abbrev opE:PE:=.meth (.loc 440023414132) 1868984688 (.cons (.bin .add (.str [117]) (.call (.glb 7566708) (.cons (.loc 108) .nil))) (.cons (.int 90) .nil))
theorem ja {src A j:Nat} {l:List AV} {x0:Sn} (O:O8 T s lr sp st sd n ep ss) (j3:j<3) (hA:T.get A=some (.list l)) (la:l.length<10) (na:A≠lr) (pa:1≤A) (hl:lk loc 440023414132=some (.ref s)) (hn:n+1∉ss.map Sn.num) (sz:ss.length<60) {Q:Hp→Prop} (K:∀ (T':Hp) (x:Sn),x.num=n+1→x.u≠[42]→O8 T' s lr sp st sd (n+1) (ep+1) (ss ++ [x])→T'.get A=some (.list (l ++ [.int (n+1)]))→Upd T.n (fun r _=>r≠s∧r≠sd∧r≠A) T T'→CoP c (d+3) (pt loc 108 (.int (j:Int))) T' (.list opE) A [108] src (.range 0 3) (j+1) .nil Q):CoP c (d+3) loc T (.list opE) A [108] src (.range 0 3) j .nil Q:=by
 refine zEEALEAA (vA ok hG (d:=d) (u:=uK j) O rg.1 rg.2 hn sz) fun T1 x h1 xn xu gC0=>?_
 refine zA gC0 fun O1 u1=>?_
 refine zEA (id O.X) fun sf X _=>?_
 have s0:=X.hs
 have hA1:T1.get A=some (.list l):=u1.get ⟨aJ X.hs hA rfl,aJ O.se.hd hA rfl⟩ hA
 have tn:cV T src j (some (.int (j:Int))) (.range 0 3):=.inl ⟨j3,by rw [Int.zero_add]⟩
 refine cN tn aX ?_
 apply cH; apply bd
 refine cD ok (aa rfl hl) s0 (tM hG rfl) rfl ?_
 apply aA; apply i8; apply aY
 refine bA ok (tG hG rfl) (by first | exact .inl ⟨_,rfl⟩ | exact .inr ⟨_,rfl⟩) ?_
 refine aC ak ?_
 apply au
 refine eF (kR (Nat.lt_trans j3 (lb rfl))) ?_
 refine n9 (fO (lt4 (Nat.add_le_add_left (show (bL j).length≤2 from iJ.1) 1) rfl)) ?_
 apply aA; apply bw; apply au
 refine bK h1 ?_
 refine mD hA1 (lt4 (Nat.le_of_lt la) rfl) pa ?_
 exact K _ x xn (by rw [xu]; exact rg.2) (O1.lst hA1 na) (ac hA1) ((u1.weak (Nat.le_refl _) fun _ _ p=>⟨p.1,p.2.1⟩).set (fun _ k=>k.2.2 rfl) hA)
theorem xv {src A:Nat} {x0:Sn} (O:O8 T s lr sp st sd 1 1 [x0]) (n0:x0.num=1) (hA:T.get A=some (.list [])) (na:A≠lr) (pa:1≤A) (hl:lk loc 440023414132=some (.ref s)):CoP c (d+3) loc T (.list opE) A [108] src (.range 0 3) 0 .nil fun T'=>∃ x1 x2 x3:Sn,(x1.u≠[42]∧x2.u≠[42]∧x3.u≠[42])∧O8 T' s lr sp st sd 4 4 [x0,x1,x2,x3]∧T'.get A=some (.list [.int 2,.int 3,.int 4])∧Upd T.n (fun r _=>r≠s∧r≠sd∧r≠A) T T':=by
 refine ja ok hG (x0:=x0) O (by decide) hA (by decide) na pa hl (by show (1:Int)+1∉[x0.num]; rw [n0]; decide) (lb rfl) fun T1 x1 n1 e1 O1 g1 u1=>?_
 refine ja ok hG (x0:=x0) O1 (by decide) g1 (by decide) na pa (aa rfl hl) (by show (1:Int)+1+1∉[x0.num,x1.num]; rw [n0,n1]; decide) (lb rfl) fun T2 x2 n2 e2 O2 g2 u2=>?_
 refine ja ok hG (x0:=x0) O2 (by decide) g2 (by decide) na pa (aa rfl (aa rfl hl)) (by show (1:Int)+1+1+1∉[x0.num,x1.num,x2.num]; rw [n0,n1,n2]; decide) (lb rfl) fun T3 x3 n3 e3 O3 g3 u3=>?_
 exact cI (.inr ⟨Nat.le_refl _,rfl⟩) ⟨x1,x2,x3,⟨e1,e2,e3⟩,O3,g3,(u1.then u2 u1.1).then u3 (Nat.le_trans u1.1 u2.1)⟩
end
theorem Q8.zero:Q8 []:=⟨fun t m=>(by cases m),List.nodup_nil⟩
section
variable {c:Cx} (ok:Ok c) (hG:c.G=G) {d:Nat} {ns:List Int} (xo:jG c 48 48)
include ok hG xo
theorem yd (hl:ns.length≤63):CaP c (gN ns) 811 [.ref 0] (d+16) fun v _=>v=.bool true:=by
 have scr:=s4 ns
 have ll:(ns.map AV.int).length<4000:=by rw [LQ]; exact lt4 hl rfl
 by_cases h11:ns.length<11
 ·skip
  refine aH ok (l:=[(129129977701492,_)]) (tF hG rfl) rfl fun Qz hQ=>?_
  refine bF (az (t:=true) (aN ok (tG hG rfl) (.inl ⟨_,rfl⟩) (ah rfl ae) (cO scr ll)) aD (by exact cmt eY (decide_eq_true (by rw [LQ]; exact Int.ofNat_lt.mpr h11)))) ?_
  refine aK iU ?_
  apply hQ
  rfl
 ·have h11:11≤ns.length:=Nat.le_of_not_lt h11
  refine gp fun gP gH=>?_
  refine zEEALEEE (n7 ok hG (d:=d+4) (T:=gN ns) (Nat.le_refl 1)) fun T1 lr sp st h1 gC0=>?_
  refine zEAAAAA gC0 fun sf X se w1 w2 c0 gC1=>?_
  refine zA gC1 fun v0 u1=>?_
  have scr1:=u1.get trivial scr
  have n1:1≤T1.n:=u1.1
  have pd:1≤sf.ses:=Nat.pos_of_ne_zero (aJ scr1 se.hd rfl)
  have O1:O8 T1 (gN ns).n lr sp st sf.ses 0 0 []:=⟨⟨sf,X,rfl,c0,v0,w1,w2⟩,se,pd,n1⟩
  have lr1:=aP X.hr
  obtain ⟨_,T2,h2,rfl,x0,m0,b0,O2,u2⟩:=vA ok hG (d:=d+12) (u:=[101,121,101]) O1 (List.cons_ne_nil _ _) (by decide) (by intro h; cases h) (lb rfl)
  apply gH;clear gH
  have scr2:T2.get 0=some (.list (ns.map .int)):=u2.get ⟨Nat.ne_of_lt X.ps,Nat.ne_of_lt pd⟩ scr1
  have uH:Upd T2.n All T2 (aq (aq T2 (.range 0 3)) (.list [])):=Upd.refl.new.new
  have l12:T1.n≤T2.n:=u2.1
  have lA:lr<(aq T2 (.range 0 3)).n:=Nat.lt_succ_of_lt (Nat.lt_of_lt_of_le lr1 l12)
  refine gp fun gP gH=>?_
  refine zEAEEEA (xv ok hG (d:=d+12) (T:=aq (aq T2 (.range 0 3)) (.list [])) (loc:=rm [bq,108] [(129129977701492,.ref 0),(440023414132,.ref (gN ns).n),(6716006,.int (0+1))]) (src:=T2.n) (A:=(aq T2 (.range 0 3)).n) (x0:=x0) (O2.new uH) m0 (ag _ _) (Nat.ne_of_gt lA) (Nat.le_add_left 1 _) rfl) fun T3 h3 x1 x2 x3 gN0 gC0=>?_
  refine zAA gC0 fun O3 hw3 u3=>?_
  obtain ⟨b1,b2,b3⟩:=gN0
  apply gH;clear gH
  have scr3:T3.get 0=some (.list (ns.map .int)):=u3.get ⟨Nat.ne_of_lt X.ps,Nat.ne_of_lt pd,Nat.ne_of_lt (Nat.le_add_left 1 _)⟩ (uH.get trivial scr2)
  obtain ⟨w0,hw0⟩:∃ w,ns[0]?=some w:=⟨_,List.getElem?_eq_getElem (Nat.lt_of_lt_of_le (Nat.succ_pos _) h11)⟩
  obtain ⟨w1,hw1⟩:∃ w,ns[1]?=some w:=⟨_,List.getElem?_eq_getElem (Nat.lt_of_lt_of_le (lb rfl:1<11) h11)⟩
  refine zEA (pp w0 3 (by decide)) fun c9 c3 hc=>?_
  refine zEA (pp w1 9 (by decide)) fun len l9 hlen=>?_
  have n0:(1:Int)≤1+(c9:Int):=Int.le_add_of_nonneg_right (Int.natCast_nonneg _)
  refine zEEALA (lw ok hG (d:=d+12) (T:=T3) (s:=(gN ns).n) O3.pn n0) fun T4 h4 g4 u4=>?_
  have u5:Upd T4.n All T4 (aq (aq T4 (.list [])) (.range 0 (len:Int))):=Upd.refl.new.new
  have u35:=u4.then u5 u4.1
  have O5:=O3.new u35
  have hw4:=u4.get trivial hw3
  have n4:1≤T4.n:=Nat.le_trans O3.pn u4.1
  have l34:lr<T4.n:=Nat.lt_of_lt_of_le lA (Nat.le_of_lt (aP hw4))
  have cl:Cl6 (aq (aq T4 (.list [])) (.range 0 (len:Int))) (gN ns).n lr T3.n (aq T2 (.range 0 3)).n T4.n (1+(c9:Int)) ns (lqL []):={
   hb:=u5.get trivial g4
   hw:=u5.get trivial hw4
   hli:=af (ag _ _)
   scr:=u35.get trivial scr3
   nw:=Nat.ne_of_gt lA
   nl:=Nat.ne_of_gt l34
   wl:=Nat.ne_of_lt (aP hw4)
   pl:=n4
   p0:=X.pl }
  refine zEAAAA (id O5.X) fun sf5 X5 e5 _ v5 _=>?_
  have L5:L8 (aq (aq T4 (.list [])) (.range 0 (len:Int))) (gN ns).n lr sp st sf.ses 4 [x0,x1,x2,x3] cS 0 0:=⟨⟨sf5,[],X5,Nat.le_refl _,e5,v5⟩,O5.se,(fun y my=>by
   cases my with
   | head=>rw [b0]; decide
   | tail _ my=>cases my with
    | head=>exact b1
    | tail _ my=>cases my with
     | head=>exact b2
     | tail _ my=>cases my with
      | head=>exact b3
      | tail _ my=>cases my),List.cons_ne_nil _ _,pd,O5.pn⟩
  have S5:Sd6 (aq (aq T4 (.list [])) (.range 0 (len:Int))) (gN ns).n lr sp st sf.ses 4 [x0,x1,x2,x3] cS 0 0 [] 0:=⟨L5,Q8.zero,.inl ⟨rfl,rfl⟩,Nat.le_refl _,⟨x0,.head _,m0⟩,fun i mi=>(by cases (show i∈([]:List Nat) from mi)),Nat.le_refl _⟩
  have lp:=xJ ok hG xo (d:=d) (src:=T4.n+1) (len:=((len:Int) - 0).toNat) (by rw [Int.sub_zero]; exact Nat.le_of_lt l9) h11 _ 0 _ [(129129977701492,.ref 0),(440023414132,.ref (gN ns).n),(6716006,.int (0+1)),(7367032,.ref (aq T2 (.range 0 3)).n),(504381206628,.int (1+(c9:Int))),(32482229711233635,.ref T3.n),(112585763745642,.ref T4.n),(111490630054256,.bool false)] [] T4.n (Nat.zero_add _) ⟨_,_,_,_,_,S5⟩ cl ⟨rfl,rfl,rfl,rfl,rfl,rfl,rfl,rfl⟩
  obtain ⟨loc',T8,h8,q8,li8,⟨ep8,ss8,es8,mm8,rv8,S8⟩,cl8,lc8⟩ | ⟨_,_,_,f⟩:=lp
  ·obtain ⟨sf8,rows8,X8,_,e8,_⟩:=id S8.L.X
   have hs8:=X8.hs
   refine zEA (iB (fun r:List Nat × En=>r.1) es8) fun mo pm so=>?_
   obtain ⟨_,T9,h9,r9,rfl,g9,u9⟩:=qm ok hG (d:=d+7) X8 (by rw [e8]; exact S8.L.se) (by
    intro r mr
    rcases S8.W with ⟨rfl,rfl⟩ | B
    ·cases List.mem_singleton.mp mr; exact ⟨.inl rfl,rfl⟩
    ·obtain ⟨a0,a1,a2,rfl,_,_,_,p0,p1,p2⟩:=B
     cases mr with
     | head=>exact ⟨.inl p0.1,p0.2⟩
     | tail _ mr=>cases mr with
      | head=>exact ⟨.inl p1.1,p1.2⟩
      | tail _ mr=>cases mr with
       | head=>exact ⟨.inl p2.1,p2.2⟩
       | tail _ mr=>
        refine zEA (List.mem_map.mp mr) fun t mt gR0=>?_
        subst gR0
        refine ⟨?_,rfl⟩
        by_cases h:t.sp<3
        ·obtain ⟨y,my,ey⟩:=S8.opn t.sp (iE h (List.mem_map_of_mem mt))
         refine .inr ⟨y,my,?_⟩
         show t.e.own=_
         rw [kW h,ey]
        ·refine .inl ?_
         show gr t.sp=.none
         unfold gr
         rw [show Nat.blt t.sp 3=false from Bool.eq_false_iff.mpr fun k=>h (Nat.le_of_ble_eq_true k)]; rfl) pm so S8.L.pn
   refine gp fun gP gH=>?_
   obtain ⟨k1,k2,k3,k4,k5,k6,k7,k8⟩:=lc8
   apply gH;clear gH
   refine aH ok (l:=[(129129977701492,_)]) (tF hG rfl) rfl fun Qz hQ=>?_
   refine aL (az (t:=false) (aN ok (tG hG rfl) (.inl ⟨_,rfl⟩) (ah rfl ae) (cO scr ll)) aD (by exact cmt eY (decide_eq_false (by rw [LQ]; exact Int.not_lt.mpr (Int.ofNat_le.mpr h11))))) ?_
   refine aR (kj ok (tG hG rfl) (tC hG rfl) rfl ae (h1)) ?_
   refine aR (bp ok rfl (X.hs) (by exact tM hG rfl) (by exact rfl) (ai aQ (ai aD ae)) (h2)) ?_
   refine o9 (aN ok (tG hG rfl) (by first | exact .inl ⟨_,rfl⟩ | exact .inr ⟨_,rfl⟩) (ai aD ae) (kP)) (show ed _ _ (.range 0 3) from ⟨3,ag _ _,by decide,by decide,by decide,by decide,rfl⟩) (h3) ?_
   refine aR (bB aD (bB (di (aj rfl) aD (bR (j:=0) (v:=.int w0) scr3 (by rw [List.getElem?_map,hw0]; rfl) (lb rfl))) aD (tV (by decide) hc)) (cE)) ?_
   refine aR (kj ok (tG hG rfl) (tC hG rfl) rfl (ah rfl (ai aQ (ah rfl ae))) (h4)) ?_
   refine aR (cT ae (lb rfl)) ?_
   refine aR iU ?_
   apply am
   apply hI
   refine bA ok (tG hG rfl) (by first | exact .inl ⟨_,rfl⟩ | exact .inr ⟨_,rfl⟩) ?_
   apply aA
   apply i8
   apply cL
   refine aE rfl ?_
   apply bw
   refine ej (bR (j:=1) (v:=.int w1) (af (u4.get trivial scr3)) (by rw [List.getElem?_map,hw1]; rfl) (lb rfl)) ?_
   apply bw
   refine n9 (tV (by decide) hlen) ?_
   apply au
   refine eF (kP) ?_
   refine jx (show ed _ _ (.range 0 ((len:Int) - 0).toNat) from ⟨_,ag _ _,by decide,by decide,Int.lt_of_lt_of_le (by decide) (Int.natCast_nonneg len),Int.ofNat_lt.mpr (Nat.lt_trans l9 (by decide)),rfl⟩) ?_
   refine qq (h8) ?_
   refine aK (fB (bp ok (k2) (hs8) (by exact tM hG rfl) (by exact rfl) ae (h9)) (cT ae (lb rfl)) (by exact xY (f:=0) (lb rfl) (.inr ⟨af g9,ag _ _⟩) lh)) ?_
   apply hQ
   rfl
  ·exact f.elim
end
end Mine.Internal
end
section
open PySem PySem.W PyProof.Rows
set_option maxRecDepth 100000
set_option maxHeartbeats 0
namespace Mine.Internal.hx06
abbrev X:=True
theorem t:X:=⟨⟩
theorem tw1000459869038874229:X:=t
theorem tw10010710848453974132:X:=t
theorem tw10021439354554779444:X:=t
theorem tw10029005972109296745:X:=t
theorem tw10034934212137935478:X:=t
theorem tw10045515578269650665:X:=t
theorem tw10051279974296750409:X:=t
theorem tw1006022606299979658:X:=t
theorem tw10071689065044924565:X:=t
theorem tw1010985247859767673:X:=t
theorem tw10129868597823060193:X:=t
theorem tw10134935014736670355:X:=t
theorem tw10159912063405285071:X:=t
theorem tw10160150511280972569:X:=t
theorem tw10183828912221910023:X:=t
theorem tw10190485167497670999:X:=t
theorem tw1022625323630466446:X:=t
theorem tw10233650920043047144:X:=t
theorem tw10253789236514071264:X:=t
theorem tw10271167063702538193:X:=t
theorem tw10300731632964309248:X:=t
theorem tw10372264134288572374:X:=t
theorem tw10378633998065525054:X:=t
theorem tw10379952064289055260:X:=t
theorem tw10397060739851828836:X:=t
theorem tw10404851521911488963:X:=t
theorem tw10413172954494607365:X:=t
theorem tw10427220046379200653:X:=t
theorem tw10428106677866212001:X:=t
theorem tw10443563243328132219:X:=t
theorem tw1044609414500268845:X:=t
theorem tw10447507048835361952:X:=t
theorem tw10456613233113875100:X:=t
theorem tw10482399603323422967:X:=t
theorem tw10509760254941993688:X:=t
theorem tw10512057035537789333:X:=t
theorem tw105347557746079079:X:=t
theorem tw10540185115616703811:X:=t
theorem tw10557548837761070283:X:=t
theorem tw1057215644923634371:X:=t
theorem tw10576943404336066885:X:=t
theorem tw10585147602757286769:X:=t
theorem tw10587124248282231525:X:=t
theorem tw10630664068791286412:X:=t
theorem tw10662104854439043059:X:=t
theorem tw10675324006971338042:X:=t
theorem tw10679191322103809814:X:=t
theorem tw10688488352764882213:X:=t
theorem tw10695928737325631810:X:=t
theorem tw10754322031680479118:X:=t
theorem tw10754638702279540142:X:=t
theorem tw10758914942483560400:X:=t
theorem tw10776015733530629402:X:=t
theorem tw10818856071167964144:X:=t
theorem tw10826791143119118890:X:=t
theorem tw10854240084493551569:X:=t
theorem tw10886756589840816886:X:=t
theorem tw10889437349292691523:X:=t
theorem tw10891938545459014626:X:=t
theorem tw10897693219867297548:X:=t
theorem tw10899573254275655717:X:=t
theorem tw10900568962088158933:X:=t
theorem tw10908597644888782969:X:=t
theorem tw10913386894000338218:X:=t
theorem tw10922735526963046455:X:=t
theorem tw10927068864666063837:X:=t
theorem tw10940597026470464044:X:=t
theorem tw10953706490877271274:X:=t
theorem tw1098265031446267054:X:=t
theorem tw10989230382949864119:X:=t
theorem tw11000658208971325795:X:=t
theorem tw11030950358360433702:X:=t
theorem tw1107632370647422089:X:=t
theorem tw11079447345376676828:X:=t
theorem tw11088671051353245611:X:=t
theorem tw11092874671913257734:X:=t
theorem tw1110396724325824000:X:=t
theorem tw11104645527838539175:X:=t
theorem tw111085455820833163:X:=t
theorem tw11115566822361375818:X:=t
theorem tw11142911194374019998:X:=t
theorem tw11143410277088809859:X:=t
theorem tw11162177835813503669:X:=t
theorem tw11191217502377512031:X:=t
theorem tw11203837558310680525:X:=t
theorem tw11220375670782419196:X:=t
theorem tw11224081175822634207:X:=t
theorem tw11225351101525853586:X:=t
theorem tw11249648302029080841:X:=t
theorem tw11277550253949427391:X:=t
theorem tw11292283436071755454:X:=t
theorem tw11293498634033403363:X:=t
theorem tw11295800743567890214:X:=t
theorem tw11301435251853160665:X:=t
theorem tw11304679519523276031:X:=t
theorem tw11322514943299319100:X:=t
theorem tw11336985934295440024:X:=t
theorem tw11361435400137842623:X:=t
theorem tw11385457316380585597:X:=t
theorem tw11416550959584335554:X:=t
theorem tw11425088812034276287:X:=t
theorem tw11441882150433933736:X:=t
theorem tw1145178273132824941:X:=t
theorem tw1145215252936643477:X:=t
theorem tw11508409461100834499:X:=t
theorem tw11514909436004086948:X:=t
theorem tw11589758569803088598:X:=t
theorem tw11590026143354282360:X:=t
theorem tw11606533380900272270:X:=t
theorem tw11621899909858209990:X:=t
theorem tw11625565455730968080:X:=t
theorem tw11653567693762124902:X:=t
theorem tw11664676033608447976:X:=t
theorem tw11665635339872209356:X:=t
theorem tw117132318694642997:X:=t
theorem tw11746093848342833990:X:=t
theorem tw1178984687986082631:X:=t
theorem tw11795829875724191749:X:=t
theorem tw11875167157506249117:X:=t
theorem tw11889125739379701479:X:=t
theorem tw11907678475685482337:X:=t
theorem tw1192470626942831184:X:=t
theorem tw11934967964030403578:X:=t
theorem tw11944031553549962964:X:=t
theorem tw11945395402341221129:X:=t
theorem tw11967161014624878824:X:=t
theorem tw11972307048072939758:X:=t
theorem tw1197930286631704707:X:=t
theorem tw12006641426823353890:X:=t
theorem tw12019382319916100025:X:=t
theorem tw12024200982419468792:X:=t
theorem tw12040787894075361492:X:=t
theorem tw12136754494072690231:X:=t
theorem tw12137763322395849658:X:=t
theorem tw1216826552118902556:X:=t
theorem tw12170261750185713648:X:=t
theorem tw12186487207372322011:X:=t
theorem tw12193468967944715283:X:=t
theorem tw12212167511336918589:X:=t
theorem tw12214004341276663554:X:=t
theorem tw12215348435188341047:X:=t
theorem tw12296840781952253987:X:=t
theorem tw12323371650977630736:X:=t
theorem tw12341049835340266866:X:=t
theorem tw12358877498211303028:X:=t
theorem tw12393955174309825120:X:=t
theorem tw12397593223022948945:X:=t
theorem tw12405473542394277235:X:=t
theorem tw12419914329812793306:X:=t
theorem tw12435154564594286809:X:=t
theorem tw12439894179408770111:X:=t
theorem tw12466763748328799256:X:=t
theorem tw12467707988770575336:X:=t
theorem tw12482858355662270059:X:=t
theorem tw12505487013648912965:X:=t
theorem tw12554960661178541116:X:=t
theorem tw12556522687844954415:X:=t
theorem tw12581663076959702768:X:=t
theorem tw12610177906937635358:X:=t
theorem tw12622924731496906902:X:=t
theorem tw12625650360236931921:X:=t
theorem tw12633882292094710184:X:=t
theorem tw1263765295925385670:X:=t
theorem tw12678282001323364773:X:=t
theorem tw12680412626977057792:X:=t
theorem tw12681486418875051454:X:=t
theorem tw12683818332866390164:X:=t
theorem tw12736107078863899717:X:=t
theorem tw12758568124141883296:X:=t
theorem tw12799332638981255565:X:=t
theorem tw12801472744610536300:X:=t
theorem tw12810614796853907810:X:=t
theorem tw12842511294983645191:X:=t
theorem tw12847206253915014929:X:=t
theorem tw12852075656013170181:X:=t
theorem tw12923524496941524454:X:=t
theorem tw12931314689943483914:X:=t
theorem tw12953822931360001674:X:=t
theorem tw12965404409493433379:X:=t
theorem tw12971942473762087185:X:=t
theorem tw12985262622692816440:X:=t
theorem tw13034738802301280318:X:=t
theorem tw13037412384674271779:X:=t
theorem tw13042873155751510238:X:=t
theorem tw13073739413836812021:X:=t
theorem tw13074130215006553589:X:=t
theorem tw13075350369728957325:X:=t
theorem tw131120593351769176:X:=t
theorem tw1312562346678277579:X:=t
theorem tw13136566529747127672:X:=t
theorem tw1316073381670110230:X:=t
theorem tw13172916764288708731:X:=t
theorem tw13199367060479222696:X:=t
theorem tw13201253151569119874:X:=t
theorem tw13212655053995963495:X:=t
theorem tw13256240520393545739:X:=t
theorem tw13280578740699467437:X:=t
theorem tw13300927797800873296:X:=t
theorem tw13346432727929297622:X:=t
theorem tw13383122390327350732:X:=t
theorem tw13421164143191920491:X:=t
theorem tw13436241828624892521:X:=t
theorem tw13439154363246390751:X:=t
theorem tw13440592821182029106:X:=t
theorem tw13444917148446667220:X:=t
theorem tw13493368734475907611:X:=t
theorem tw13496485239184750783:X:=t
theorem tw1353089282057353464:X:=t
theorem tw13543974248634067467:X:=t
theorem tw13547418516393329090:X:=t
theorem tw13550819661934621500:X:=t
theorem tw13551251601349621770:X:=t
theorem tw13578279100387699906:X:=t
theorem tw1360510520155892180:X:=t
theorem tw13625543714141415892:X:=t
theorem tw13657711358567000327:X:=t
theorem tw13673313713428177395:X:=t
theorem tw13717876894127509964:X:=t
theorem tw13729022623771475474:X:=t
theorem tw13735461254531581612:X:=t
theorem tw13768463050856763405:X:=t
theorem tw13784395339641344284:X:=t
theorem tw13798801329372508853:X:=t
theorem tw13802289581119883667:X:=t
theorem tw13810316290965833593:X:=t
theorem tw13827257198244817277:X:=t
theorem tw138358443913852920:X:=t
theorem tw13850554524224682409:X:=t
theorem tw13876092662221639493:X:=t
theorem tw13925619628599592571:X:=t
theorem tw13959778079985725070:X:=t
theorem tw13989960081632020665:X:=t
theorem tw1400267430266175036:X:=t
theorem tw14014789579253970105:X:=t
theorem tw14058632453209311548:X:=t
theorem tw14085170166933731751:X:=t
theorem tw14111037107112087636:X:=t
theorem tw14114029258391512091:X:=t
theorem tw14118275776680148714:X:=t
theorem tw14124612646723338001:X:=t
theorem tw14172234179795048867:X:=t
theorem tw14184645973933108998:X:=t
theorem tw14222527409602645409:X:=t
theorem tw14241037816915313876:X:=t
theorem tw14252775866689359693:X:=t
theorem tw14259775250978418840:X:=t
theorem tw14268377549331875901:X:=t
theorem tw14272800078811231798:X:=t
theorem tw14284694480147131355:X:=t
theorem tw14295635705032313074:X:=t
theorem tw14315993785196943691:X:=t
theorem tw14316486259873098239:X:=t
theorem tw14336852310603736012:X:=t
theorem tw14379680713767631538:X:=t
theorem tw14385558729675583513:X:=t
theorem tw14387882187192355160:X:=t
theorem tw14402629331309196083:X:=t
theorem tw14413726829170678962:X:=t
theorem tw14432757089647367637:X:=t
theorem tw14446727603679010893:X:=t
theorem tw1444934719974453361:X:=t
theorem tw14465842158153997644:X:=t
theorem tw14540790166224449349:X:=t
theorem tw14572599170771583552:X:=t
theorem tw14623354606521642048:X:=t
theorem tw14653027343601214174:X:=t
theorem tw14685797272178957498:X:=t
theorem tw14782885080981114396:X:=t
theorem tw14799072146648787645:X:=t
theorem tw14834440400871425479:X:=t
theorem tw14840075283113301396:X:=t
theorem tw148712925900963510:X:=t
theorem tw14912632103201060945:X:=t
theorem tw14918706452081057268:X:=t
theorem tw14951123389644980281:X:=t
theorem tw14952040241968891528:X:=t
theorem tw14955865179152287316:X:=t
theorem tw14989878940319783296:X:=t
theorem tw14991555426455416121:X:=t
theorem tw14994251085934193752:X:=t
theorem tw15005640090271584888:X:=t
theorem tw15007446736075609582:X:=t
theorem tw15012315453599718918:X:=t
theorem tw15038997942625808107:X:=t
theorem tw15053232453663124940:X:=t
theorem tw15053442315562254067:X:=t
theorem tw15056573875188657329:X:=t
theorem tw15076642012497478873:X:=t
theorem tw15155508561110041515:X:=t
theorem tw15162401441451127590:X:=t
theorem tw15182725009599635614:X:=t
theorem tw15192700217105690770:X:=t
theorem tw15195948196749985152:X:=t
theorem tw15204157052766917147:X:=t
theorem tw15215657099693523067:X:=t
theorem tw15226552130800787899:X:=t
theorem tw15245972094777108710:X:=t
theorem tw15250878379318799831:X:=t
theorem tw15253218449802879831:X:=t
theorem tw15266724286303474892:X:=t
theorem tw15297352202834679710:X:=t
theorem tw15297456530199055188:X:=t
theorem tw15303465061423078323:X:=t
theorem tw15352917523532634876:X:=t
theorem tw15362963539412080302:X:=t
theorem tw15385138083879896928:X:=t
theorem tw15389556303478579986:X:=t
theorem tw15419675032851522052:X:=t
theorem tw15435205362555242307:X:=t
theorem tw15448385408151301127:X:=t
theorem tw1547030966595891020:X:=t
theorem tw15504142472362144784:X:=t
theorem tw15521356959545664682:X:=t
theorem tw15543628773261948700:X:=t
theorem tw15570420574718198312:X:=t
theorem tw15597779777319517135:X:=t
theorem tw15598972549364771960:X:=t
theorem tw15607669932294871445:X:=t
theorem tw15632821045265291830:X:=t
theorem tw15647684947959949059:X:=t
theorem tw1566689480491562437:X:=t
theorem tw15676178326119637746:X:=t
theorem tw15707980211149059848:X:=t
theorem tw15719885619122236824:X:=t
theorem tw15727779815787388322:X:=t
theorem tw15749032272522209937:X:=t
theorem tw15752809153152158718:X:=t
theorem tw15756981197449923921:X:=t
theorem tw15764262399702452398:X:=t
theorem tw15782715883528249822:X:=t
theorem tw15795080867412596701:X:=t
theorem tw15805039873646010128:X:=t
theorem tw15872881699860368393:X:=t
theorem tw15877653257837918897:X:=t
theorem tw15879448463695243174:X:=t
theorem tw15898420932755408600:X:=t
theorem tw15919779857960930500:X:=t
theorem tw15938850628401199238:X:=t
theorem tw1595123573732716615:X:=t
theorem tw15977755548054605239:X:=t
theorem tw1597822183473527938:X:=t
theorem tw15979254962481844706:X:=t
theorem tw1597971758554216137:X:=t
theorem tw15983614734090721348:X:=t
theorem tw15990218525315461159:X:=t
theorem tw15999896421819751477:X:=t
theorem tw16004195231767896831:X:=t
theorem tw16048619092894032551:X:=t
theorem tw16065952153663884657:X:=t
theorem tw16091088175593763978:X:=t
theorem tw16093533885420261974:X:=t
theorem tw16118021004750992561:X:=t
theorem tw16138782053038807000:X:=t
theorem tw16148251788768431306:X:=t
theorem tw16162286742964357124:X:=t
theorem tw16173335638096245167:X:=t
theorem tw16225917418427657355:X:=t
theorem tw16228107074960895894:X:=t
theorem tw16238263072696183354:X:=t
theorem tw16246081737842504734:X:=t
theorem tw16250643342261536281:X:=t
theorem tw16251354419179825888:X:=t
theorem tw16274883327643116885:X:=t
theorem tw16284260116774912572:X:=t
theorem tw16297769633228182041:X:=t
theorem tw16364698932177602477:X:=t
theorem tw16369348962579381537:X:=t
theorem tw16385884150549999317:X:=t
theorem tw16390369420767265727:X:=t
theorem tw16399281073051402851:X:=t
theorem tw16438417496168807152:X:=t
theorem tw16453887233726235298:X:=t
theorem tw16489875577800639624:X:=t
theorem tw16569007087149464403:X:=t
theorem tw16581936313269962355:X:=t
theorem tw16598352067610236054:X:=t
theorem tw16608064086417923251:X:=t
theorem tw16608814840836606833:X:=t
theorem tw16610817925062214329:X:=t
theorem tw16623247445019622224:X:=t
theorem tw16623388643044106890:X:=t
theorem tw16627505557942582820:X:=t
theorem tw1667437627963784903:X:=t
theorem tw16680602851576885560:X:=t
theorem tw16711577220101066424:X:=t
theorem tw16721759922433663065:X:=t
theorem tw16741562843810218205:X:=t
theorem tw16742963482703043878:X:=t
theorem tw16757514069112974890:X:=t
theorem tw16779470278353001089:X:=t
theorem tw1679161067766953654:X:=t
theorem tw1679312063208143720:X:=t
theorem tw16798306947522435064:X:=t
theorem tw16829443152539498120:X:=t
theorem tw16834844673092860915:X:=t
theorem tw16842682713595164842:X:=t
theorem tw16859661866407922950:X:=t
theorem tw16864083768826527810:X:=t
theorem tw16867726337653289180:X:=t
theorem tw16887221139943546235:X:=t
theorem tw16909882950553193629:X:=t
theorem tw16917921779151621422:X:=t
theorem tw16953980016244842764:X:=t
theorem tw1695865455760668501:X:=t
theorem tw16970046258128908384:X:=t
theorem tw16973048523338229723:X:=t
theorem tw16994802785270488733:X:=t
theorem tw17005829894522464284:X:=t
theorem tw17014608940471643879:X:=t
theorem tw1702882615789133507:X:=t
theorem tw17043687436596475747:X:=t
theorem tw1706023012224816605:X:=t
theorem tw1706258727646581245:X:=t
theorem tw17078585254330558756:X:=t
theorem tw17088126779178248233:X:=t
theorem tw17105311414129855315:X:=t
theorem tw1711794232860039473:X:=t
theorem tw17127924930933560532:X:=t
theorem tw17131817572374715989:X:=t
theorem tw17144821214793178169:X:=t
theorem tw17251252717861486607:X:=t
theorem tw17264072379810733702:X:=t
theorem tw17264940803178271011:X:=t
theorem tw17267194081719982149:X:=t
theorem tw17271753719465744911:X:=t
theorem tw17279625246427902213:X:=t
theorem tw17282364582336751517:X:=t
theorem tw17289304070478572421:X:=t
theorem tw17306809734861803907:X:=t
theorem tw17309443186421500504:X:=t
theorem tw17339821418770616885:X:=t
theorem tw17355648293412200942:X:=t
theorem tw17364708555100355158:X:=t
theorem tw17366691473096994723:X:=t
theorem tw1737015520036832307:X:=t
theorem tw17377757748162398936:X:=t
theorem tw17412268012094854741:X:=t
theorem tw1742873402760194408:X:=t
theorem tw1746021744567300492:X:=t
theorem tw17463548704778794780:X:=t
theorem tw17466415860312664957:X:=t
theorem tw17471962638510015539:X:=t
theorem tw17473427288887514766:X:=t
theorem tw17473629758103781966:X:=t
theorem tw17498213795319456362:X:=t
theorem tw17533434314089115082:X:=t
theorem tw17545024140424557270:X:=t
theorem tw17584202829519322132:X:=t
theorem tw17595198863693872874:X:=t
theorem tw17600937083206192376:X:=t
theorem tw17681072663415836855:X:=t
theorem tw17698160279474546804:X:=t
theorem tw17744711765692893605:X:=t
theorem tw17747767604083804919:X:=t
theorem tw17757930849336486637:X:=t
theorem tw17763474858662531176:X:=t
theorem tw17765646663445261154:X:=t
theorem tw17773975799742470337:X:=t
theorem tw17783866028964109030:X:=t
theorem tw17784514539031947987:X:=t
theorem tw17788050364459623767:X:=t
theorem tw17869857551733069943:X:=t
theorem tw17895950729708497169:X:=t
theorem tw17931377169186948782:X:=t
theorem tw17932213704341920985:X:=t
theorem tw17943031021174000686:X:=t
theorem tw17944948294204677679:X:=t
theorem tw17949986755238838768:X:=t
theorem tw17955773772410098047:X:=t
theorem tw17969633405365621607:X:=t
theorem tw17985970888327232484:X:=t
theorem tw1801693287557747804:X:=t
theorem tw18032521874379785854:X:=t
theorem tw1805202878299700326:X:=t
theorem tw18059933512385113380:X:=t
theorem tw18082799481802287743:X:=t
theorem tw18094340123146353253:X:=t
theorem tw18147955467039564038:X:=t
theorem tw18155658489229014549:X:=t
theorem tw18173940770939573718:X:=t
theorem tw18180376892847058909:X:=t
theorem tw18231453626409234907:X:=t
theorem tw18241915301039853365:X:=t
theorem tw18243044789075228673:X:=t
theorem tw18244998888816359292:X:=t
theorem tw18247599660132726315:X:=t
theorem tw18250317224154111257:X:=t
theorem tw1826022989650500438:X:=t
theorem tw18270479465829036224:X:=t
theorem tw18285376934195752091:X:=t
theorem tw18285663347884582283:X:=t
theorem tw1829048377411694361:X:=t
theorem tw18298890420514609563:X:=t
theorem tw18313812702294766687:X:=t
theorem tw183147615151615449:X:=t
theorem tw18329665676269028396:X:=t
theorem tw18380476661679869631:X:=t
theorem tw1838048851041196989:X:=t
theorem tw18382980700984134831:X:=t
theorem tw18397196864653070954:X:=t
theorem tw18446563729433105808:X:=t
theorem tw1880222873115962812:X:=t
theorem tw1903015314765961651:X:=t
theorem tw1906810441202650621:X:=t
theorem tw1932014158759549767:X:=t
theorem tw194515796106372683:X:=t
theorem tw1957748842871395727:X:=t
theorem tw1984649322572132784:X:=t
theorem tw1993819190535236396:X:=t
theorem tw2024621611160475761:X:=t
theorem tw2038734336629985910:X:=t
theorem tw2043007605185705774:X:=t
theorem tw2087536754807901116:X:=t
theorem tw2099791583456280007:X:=t
theorem tw2099906451349947470:X:=t
theorem tw211596270806798185:X:=t
theorem tw2126080637379447022:X:=t
theorem tw2172003332981597134:X:=t
theorem tw2191113689682539929:X:=t
theorem tw2212411435486771238:X:=t
theorem tw2254902140962691481:X:=t
theorem tw2264555992898888161:X:=t
theorem tw2266857779299281503:X:=t
theorem tw2287360667621356635:X:=t
theorem tw2304373339683618764:X:=t
theorem tw2307556147454144255:X:=t
theorem tw2326332023952758298:X:=t
theorem tw2379514182052186082:X:=t
theorem tw2394489939644738767:X:=t
theorem tw2400703361921899511:X:=t
theorem tw240511156948014778:X:=t
theorem tw2410940334053690424:X:=t
theorem tw2419271084736040910:X:=t
theorem tw2447321722430765540:X:=t
theorem tw2483950138526035431:X:=t
theorem tw2484423321022301675:X:=t
theorem tw2490318958723005356:X:=t
theorem tw2503324503346701334:X:=t
theorem tw2543071570438263335:X:=t
theorem tw2585068611114220792:X:=t
theorem tw2589610756704661442:X:=t
theorem tw2594889229867244387:X:=t
theorem tw2614341136130913742:X:=t
theorem tw2616280445688403620:X:=t
theorem tw2620565683243368924:X:=t
theorem tw2644506236733675448:X:=t
theorem tw2650570937802184937:X:=t
theorem tw2661201367512916137:X:=t
theorem tw2667392035256132557:X:=t
theorem tw2706357620489510348:X:=t
theorem tw270944347572441732:X:=t
theorem tw2718575459825365674:X:=t
theorem tw272831243027434221:X:=t
theorem tw2746462809364502296:X:=t
theorem tw2756768819125477861:X:=t
theorem tw2791924009148049707:X:=t
theorem tw2815012598025285101:X:=t
theorem tw2819849169285206272:X:=t
theorem tw2837044242801476989:X:=t
theorem tw283796917025371415:X:=t
theorem tw2870520244749629609:X:=t
theorem tw2879633330516087169:X:=t
theorem tw2902237679684127722:X:=t
theorem tw3015293987095575357:X:=t
theorem tw302819478075566856:X:=t
theorem tw3061158553192725149:X:=t
theorem tw3085975516078497189:X:=t
theorem tw3112082832957822038:X:=t
theorem tw3127723588738979624:X:=t
theorem tw3152903775539246755:X:=t
theorem tw3173159354293369129:X:=t
theorem tw3183091201559383985:X:=t
theorem tw3183822279694728490:X:=t
theorem tw3196576655348379815:X:=t
theorem tw3198849663016480480:X:=t
theorem tw3199110932413126326:X:=t
theorem tw3230329031829092980:X:=t
theorem tw3237730651669561123:X:=t
theorem tw3248016591852373133:X:=t
theorem tw3259363832647931327:X:=t
theorem tw3277358325464357121:X:=t
theorem tw3304582267754293271:X:=t
theorem tw3316322597629001909:X:=t
theorem tw3352512879085823292:X:=t
theorem tw3370277867893562388:X:=t
theorem tw340505525651781266:X:=t
theorem tw3424399247563579557:X:=t
theorem tw3427369704397899567:X:=t
theorem tw3455202362533362913:X:=t
theorem tw3477486542968547336:X:=t
theorem tw3485983575275605550:X:=t
theorem tw3486203356308870130:X:=t
theorem tw3490164415866371742:X:=t
theorem tw3538406925865552686:X:=t
theorem tw3564567213628085406:X:=t
theorem tw3572441864917160382:X:=t
theorem tw3577027702986035906:X:=t
theorem tw3657244138027219903:X:=t
theorem tw3666357730621780688:X:=t
theorem tw3697626668150254794:X:=t
theorem tw3707459779220232320:X:=t
theorem tw3721117901603898308:X:=t
theorem tw3721280755556525352:X:=t
theorem tw3779272197605044776:X:=t
theorem tw3788724584265508510:X:=t
theorem tw37926922826529633:X:=t
theorem tw3815587563377753521:X:=t
theorem tw3855997661772584891:X:=t
theorem tw3862325146638816736:X:=t
theorem tw3869998883133749584:X:=t
theorem tw3871952633585814620:X:=t
theorem tw3915920376731042673:X:=t
theorem tw3926284595952519965:X:=t
theorem tw395222794227849912:X:=t
theorem tw3986416833709941881:X:=t
theorem tw3994246229460170450:X:=t
theorem tw4003703561052519178:X:=t
theorem tw4010061067297047866:X:=t
theorem tw40522954653304879:X:=t
theorem tw4069552032850235344:X:=t
theorem tw4100199190173849233:X:=t
theorem tw4131615430400296702:X:=t
theorem tw4147487441345266668:X:=t
theorem tw4164229549372031839:X:=t
theorem tw4270778030047924312:X:=t
theorem tw4301705258789671758:X:=t
theorem tw4330139571842993370:X:=t
theorem tw4352730527149422925:X:=t
theorem tw4354276440029923070:X:=t
theorem tw435649589302685604:X:=t
theorem tw4359686673452754584:X:=t
theorem tw4368640044944559140:X:=t
theorem tw4384893719467588638:X:=t
theorem tw4394626924175270343:X:=t
theorem tw4396274691630817990:X:=t
theorem tw4404854292105047135:X:=t
theorem tw4425262580820873634:X:=t
theorem tw4429529176591354195:X:=t
theorem tw4430217673722319865:X:=t
theorem tw4446201842688065248:X:=t
theorem tw4449896714972290147:X:=t
theorem tw4463730765035777261:X:=t
theorem tw4473412789796337429:X:=t
theorem tw4548981544525699175:X:=t
theorem tw4560807778856671646:X:=t
theorem tw4564146005041072551:X:=t
theorem tw4564662966409343240:X:=t
theorem tw456856360559539851:X:=t
theorem tw4615217394602370901:X:=t
theorem tw4623027630478727651:X:=t
theorem tw4628661294239845278:X:=t
theorem tw4637163518063073821:X:=t
theorem tw4645629868972373212:X:=t
theorem tw4659027161920672416:X:=t
theorem tw4699628452284609794:X:=t
theorem tw470722260823851243:X:=t
theorem tw4720972542109531041:X:=t
theorem tw4748991276215868880:X:=t
theorem tw4754729264384632704:X:=t
theorem tw4765659986751774156:X:=t
theorem tw4765822726837409494:X:=t
theorem tw4814528638189876406:X:=t
theorem tw4816862000710773567:X:=t
theorem tw4831056446271242905:X:=t
theorem tw4865804963454192988:X:=t
theorem tw4883368459866016860:X:=t
theorem tw4905586159536451299:X:=t
theorem tw4929383507818342004:X:=t
theorem tw5003628671039329108:X:=t
theorem tw5006310411018284506:X:=t
theorem tw5011411301466430602:X:=t
theorem tw5013236506199335310:X:=t
theorem tw5022687298404739277:X:=t
theorem tw5029486476325856442:X:=t
theorem tw505010729004959118:X:=t
theorem tw5060509263663255680:X:=t
theorem tw5068720400991453634:X:=t
theorem tw5095934977329854064:X:=t
theorem tw5096284298012867830:X:=t
theorem tw5103992015524823444:X:=t
theorem tw5110643785766044468:X:=t
theorem tw5142948871994052879:X:=t
theorem tw5144297178493676360:X:=t
theorem tw5166273297990326625:X:=t
theorem tw5181699230788402100:X:=t
theorem tw5189232983238023902:X:=t
theorem tw520920876590964514:X:=t
theorem tw5242250257639287480:X:=t
theorem tw5270332360637848032:X:=t
theorem tw5293187362137019807:X:=t
theorem tw5297754656230661585:X:=t
theorem tw5312180214268711201:X:=t
theorem tw5325191537007624700:X:=t
theorem tw533007015720776042:X:=t
theorem tw5344543667357866656:X:=t
theorem tw5349721914252208681:X:=t
theorem tw5351665229907295864:X:=t
theorem tw535488292626078891:X:=t
theorem tw5374506117848242:X:=t
theorem tw5436960024595727934:X:=t
theorem tw545139639746916602:X:=t
theorem tw5453849356129282731:X:=t
theorem tw5454682754959583128:X:=t
theorem tw5481880157341635793:X:=t
theorem tw5490011328924055191:X:=t
theorem tw549736761286150575:X:=t
theorem tw5538359524604843084:X:=t
theorem tw5595417499412797122:X:=t
theorem tw559951505546708158:X:=t
theorem tw5634140144562875243:X:=t
theorem tw5644543330733270784:X:=t
theorem tw5664356642501363519:X:=t
theorem tw5677422504885137130:X:=t
theorem tw5712177153905417377:X:=t
theorem tw5714661113252959833:X:=t
theorem tw5727911636688853870:X:=t
theorem tw5731654990052392300:X:=t
theorem tw575994655710188634:X:=t
theorem tw5760079920796959004:X:=t
theorem tw5762074454585394821:X:=t
theorem tw5781055805641061519:X:=t
theorem tw5788229906642152220:X:=t
theorem tw5806140653428117056:X:=t
theorem tw5823769325014263269:X:=t
theorem tw5827134951750147256:X:=t
theorem tw5835732503133080937:X:=t
theorem tw5851804705721853143:X:=t
theorem tw5915624677079627482:X:=t
theorem tw5917893827426474810:X:=t
theorem tw5920550687484070210:X:=t
theorem tw5953790963667656963:X:=t
theorem tw5957543236809619330:X:=t
theorem tw59592134273001375:X:=t
theorem tw5977797045603695702:X:=t
theorem tw5989671204976807785:X:=t
theorem tw5998641731586764859:X:=t
theorem tw6046453906511160545:X:=t
theorem tw6053762311153613935:X:=t
theorem tw6095575978419289477:X:=t
theorem tw6095987349439469591:X:=t
theorem tw6096032154482719568:X:=t
theorem tw6115926718036102544:X:=t
theorem tw6173680858877831692:X:=t
theorem tw617771510774018466:X:=t
theorem tw6214134216016725205:X:=t
theorem tw6252470991340085694:X:=t
theorem tw626663607861687422:X:=t
theorem tw6303127784283998506:X:=t
theorem tw6346461631275631011:X:=t
theorem tw6380162716180755153:X:=t
theorem tw638106922283942618:X:=t
theorem tw6381480522868807473:X:=t
theorem tw6394729855508145584:X:=t
theorem tw639749331995178649:X:=t
theorem tw6427287456612513389:X:=t
theorem tw6438088463032523924:X:=t
theorem tw6459276681603772589:X:=t
theorem tw647447058837132422:X:=t
theorem tw6474869147513625940:X:=t
theorem tw6482546685000734195:X:=t
theorem tw6485076657272070953:X:=t
theorem tw6503477122811032668:X:=t
theorem tw6527876674032114514:X:=t
theorem tw6536920130548822811:X:=t
theorem tw656927106720031243:X:=t
theorem tw6591188676052140363:X:=t
theorem tw6625053166501243548:X:=t
theorem tw6639209494017477758:X:=t
theorem tw6648580692702716700:X:=t
theorem tw6648919044133018091:X:=t
theorem tw6662263044578294921:X:=t
theorem tw6686361155330271246:X:=t
theorem tw669098990421068411:X:=t
theorem tw6692166923117853510:X:=t
theorem tw6693111667870082965:X:=t
theorem tw670421072481778720:X:=t
theorem tw6729023305859595346:X:=t
theorem tw6743168352991166151:X:=t
theorem tw6766284052675444269:X:=t
theorem tw6793394568451891251:X:=t
theorem tw6800629476846695505:X:=t
theorem tw6807572732877887385:X:=t
theorem tw6810706867940312535:X:=t
theorem tw6847395202028382781:X:=t
theorem tw6857085111046308802:X:=t
theorem tw6886362955483170308:X:=t
theorem tw6908921973222878234:X:=t
theorem tw6941191681020990967:X:=t
theorem tw6948037921169378033:X:=t
theorem tw6949347184624773641:X:=t
theorem tw6955341255911579181:X:=t
theorem tw6973126719387465923:X:=t
theorem tw6981683911760442834:X:=t
theorem tw6992003818937930047:X:=t
theorem tw6999997998531258671:X:=t
theorem tw7012928289113623851:X:=t
theorem tw7030944614998050154:X:=t
theorem tw7056626977847047670:X:=t
theorem tw7082450245719198313:X:=t
theorem tw7096523199311091573:X:=t
theorem tw7176516002664199311:X:=t
theorem tw7192995272304987545:X:=t
theorem tw7243400564535967691:X:=t
theorem tw7243456817297600292:X:=t
theorem tw7264453311527280157:X:=t
theorem tw7303821661691863108:X:=t
theorem tw7306684052283123347:X:=t
theorem tw7322841828667576591:X:=t
theorem tw7334944225738494382:X:=t
theorem tw7335169471297333242:X:=t
theorem tw734272325617701012:X:=t
theorem tw7368831219825031506:X:=t
theorem tw7371024401398554726:X:=t
theorem tw7382247041037379234:X:=t
theorem tw7401456027089856259:X:=t
theorem tw7469078563326642334:X:=t
theorem tw7470422397486819117:X:=t
theorem tw7472488768279178424:X:=t
theorem tw7480130910472987796:X:=t
theorem tw7489302736035869014:X:=t
theorem tw7501802823931444594:X:=t
theorem tw7512606733247472271:X:=t
theorem tw75364991044341562:X:=t
theorem tw7549082094690642874:X:=t
theorem tw7557163170779558963:X:=t
theorem tw7574265285627063750:X:=t
theorem tw757818187577371085:X:=t
theorem tw758461284977958104:X:=t
theorem tw7592829569484788572:X:=t
theorem tw7649783891737681475:X:=t
theorem tw7661712547955854261:X:=t
theorem tw767925416098394375:X:=t
theorem tw7687657193851871945:X:=t
theorem tw7709702742414899053:X:=t
theorem tw7718160423849759352:X:=t
theorem tw7724429746698051562:X:=t
theorem tw7725527285688538118:X:=t
theorem tw773583690433914547:X:=t
theorem tw7737073724972050376:X:=t
theorem tw7745532371540195029:X:=t
theorem tw7753440164246504183:X:=t
theorem tw7802648655773787352:X:=t
theorem tw7836911397060526699:X:=t
theorem tw7872793564004249198:X:=t
theorem tw7874901346385826841:X:=t
theorem tw7889765828151520573:X:=t
theorem tw7946375711456109740:X:=t
theorem tw7946988914047352855:X:=t
theorem tw7951315579628868971:X:=t
theorem tw7953276573883708477:X:=t
theorem tw7954622399295305244:X:=t
theorem tw7955376456335375254:X:=t
theorem tw796433565384969732:X:=t
theorem tw7987051648811186322:X:=t
theorem tw7993649874390452446:X:=t
theorem tw8080528766992055359:X:=t
theorem tw8084633406965229184:X:=t
theorem tw8102683967610806971:X:=t
theorem tw8111537390414423219:X:=t
theorem tw8120908357072316737:X:=t
theorem tw8132679568872557967:X:=t
theorem tw8137064182701185956:X:=t
theorem tw8157353028626512409:X:=t
theorem tw8158709712706350235:X:=t
theorem tw81670105089583562:X:=t
theorem tw8204882056551251618:X:=t
theorem tw8211054019742350846:X:=t
theorem tw8241621146981978712:X:=t
theorem tw8244053470876085748:X:=t
theorem tw8256935066616607655:X:=t
theorem tw8259458625005255737:X:=t
theorem tw8273210156184263878:X:=t
theorem tw8279052420727452552:X:=t
theorem tw8284012066294025102:X:=t
theorem tw8291727175895560836:X:=t
theorem tw8315203715716101027:X:=t
theorem tw8332490908600815922:X:=t
theorem tw8335951159831695556:X:=t
theorem tw8349949107725413793:X:=t
theorem tw8360032902561765490:X:=t
theorem tw8376299476053924418:X:=t
theorem tw8382634476298563675:X:=t
theorem tw838986467292910802:X:=t
theorem tw8413287548676083566:X:=t
theorem tw8416572360208484806:X:=t
theorem tw8429149401455482354:X:=t
theorem tw8450790963551204026:X:=t
theorem tw8484459937265727996:X:=t
theorem tw8504604022332671240:X:=t
theorem tw8553411591390722393:X:=t
theorem tw859625971986480972:X:=t
theorem tw8596814675430510734:X:=t
theorem tw8644200807085889012:X:=t
theorem tw8649945019427338792:X:=t
theorem tw866396901134758723:X:=t
theorem tw8673089536330475175:X:=t
theorem tw8676965125922548553:X:=t
theorem tw871397547189388099:X:=t
theorem tw8734647045687761511:X:=t
theorem tw8766597858820799415:X:=t
theorem tw8786731578983309606:X:=t
theorem tw8813197421762038979:X:=t
theorem tw8813939069143375267:X:=t
theorem tw8815629745445842511:X:=t
theorem tw8818947551834132332:X:=t
theorem tw8842889438882848625:X:=t
theorem tw8850362432151864480:X:=t
theorem tw8850559850629731348:X:=t
theorem tw885665478823955834:X:=t
theorem tw8862021934165194865:X:=t
theorem tw8880144781962118588:X:=t
theorem tw8920632301342009410:X:=t
theorem tw892155700847098224:X:=t
theorem tw8953681106920869465:X:=t
theorem tw895490914407126847:X:=t
theorem tw8973961026317158722:X:=t
theorem tw8984059927018793985:X:=t
theorem tw899368955558247460:X:=t
theorem tw8996695655261625880:X:=t
theorem tw8997797003761474099:X:=t
theorem tw902195210005029089:X:=t
theorem tw9038937136004908663:X:=t
theorem tw9056083423248708893:X:=t
theorem tw9060260496028172746:X:=t
theorem tw9067074847391500567:X:=t
theorem tw9095116562398700191:X:=t
theorem tw9095568756804995630:X:=t
theorem tw9098923323909619092:X:=t
theorem tw910239207362886975:X:=t
theorem tw9109396407033516821:X:=t
theorem tw9122083729856156938:X:=t
theorem tw9133522491796799889:X:=t
theorem tw9179589622632245712:X:=t
theorem tw9222306799167531739:X:=t
theorem tw9231358367662725283:X:=t
theorem tw9253065980855650341:X:=t
theorem tw9258752558310515289:X:=t
theorem tw9304175312671388078:X:=t
theorem tw9307033256427275243:X:=t
theorem tw9334320391009351420:X:=t
theorem tw9343141784135310426:X:=t
theorem tw9410231794659935137:X:=t
theorem tw9454657568841238302:X:=t
theorem tw9479379340017695549:X:=t
theorem tw9481561315213113272:X:=t
theorem tw9482604305399439633:X:=t
theorem tw9485552082024854533:X:=t
theorem tw9524680814763265871:X:=t
theorem tw9614760012533513089:X:=t
theorem tw9635090721676385875:X:=t
theorem tw9639852333365701851:X:=t
theorem tw9647058505317138659:X:=t
theorem tw9667406584106138725:X:=t
theorem tw9694679218802459947:X:=t
theorem tw9695535072926357690:X:=t
theorem tw9718625700154059819:X:=t
theorem tw9732660997180414612:X:=t
theorem tw9732861317105606342:X:=t
theorem tw9754558789311247144:X:=t
theorem tw9758985324498525052:X:=t
theorem tw9770354051962556365:X:=t
theorem tw9779255825020973470:X:=t
theorem tw9784267650455316703:X:=t
theorem tw9820143211427494298:X:=t
theorem tw9832931430756219572:X:=t
theorem tw9846936460893130098:X:=t
theorem tw9848113156025440426:X:=t
theorem tw9874171780475256050:X:=t
theorem tw9948930060425059163:X:=t
theorem tw9976254513974964314:X:=t
theorem tw9992407604100895782:X:=t
end Mine.Internal.hx06
set_option Elab.async true
namespace Mine.Internal
theorem lf {α:Type} {l:List α} {p:α→Bool} (h:l.all p=true):∀ x∈l,p x=true:=List.all_eq_true.mp h
abbrev psI:PsI:=⟨⟨8,8,8,13⟩,⟨8,8,8,15⟩,⟨8,8,8,24⟩,⟨8,25,8,29⟩,⟨8,8,8,30⟩,⟨8,8,8,30⟩,⟨9,8,9,12⟩,⟨9,8,9,17⟩,⟨9,20,9,24⟩,⟨9,8,9,24⟩,⟨10,8,10,12⟩,⟨10,8,10,18⟩,⟨10,21,10,26⟩,⟨10,8,10,26⟩⟩
theorem hx06:PySem.Challenge.rw_ui0504_06.Holds:=by
  w_on; o_law; k_head; (case hw=>w_witness2)
  have tab:∀ P:Params,vH (hx06.heap_1_39 P) G:=fun P=>⟨by kernel_rfl,lf (p:=fun q:Nat × CI=>qM (hx06.heap_1_39 P) q.1 q.2) (by kernel_rfl),lf (p:=fun q:Nat × FI=>uY (hx06.heap_1_39 P) q.1 q.2) (by kernel_rfl),lf (p:=fun q:Nat × List AV=>oR (hx06.heap_1_39 P) q.1 q.2) (by kernel_rfl)⟩
  have xt:∀ P:Params,ExT (hx06.heap_1_39 P) PySem.Challenge.rw_ui0504_06.row.prog 48 38 psI:=fun P=>by
    refine ⟨?_,?_,?_,?_,?_,?_,?_,?_,?_,?_,?_,?_,?_,?_,?_,?_,?_,?_,?_,?_,fun a b d S=>?_,?_,?_⟩ <;> kernel_rfl
  have xc:∀ P:Params,ExC (hx06.heap_1_39 P) 48 48 38:=fun P=>by
    refine ⟨?_,?_,?_,?_,?_,fun self=>?_,?_,?_,?_,?_,?_,?_,?_,?_,?_,?_,?_,?_,?_,?_,?_,?_,?_,?_,?_⟩ <;> kernel_rfl
  k_fill
  intro w s₀ s₁ mg mb G' y fa o pm cd doc dV kV ho hd hcd hD hmg hg args vals as hpre hlay hrd hwl hlo
  have KX:=kIn_of y
  refine Ground.open G' ?_
  intro T B D TE TW
  wrow_args hpre hlay hrd hwl hlo
  rename_i ns _ _ _ _ _ _ _ L _ _ _ _ wl _ _ _ hlen _
  clear hd hcd hD B D TE TW
  have hfa:fa=vc:=by
    have h1:=mg_of KX T.g (show nsIn (hx06.heap_1_39 w.params) mainGlobals (Str.ofString "law")=some (some (.ref vc)) by kernel_rfl)
    have h2:=hmg.symm.trans h1
    injection h2 with h2
    injection h2
  subst hfa
  have hsys:bl s₁.heap sysModules:=by
    obtain ⟨mm,h,_⟩:=(T.seer (by kernel_rfl)).mods
    exact da h
  have ok:Ok ⟨PySem.Challenge.rw_ui0504_06.row.prog,w,hx06.heap_1_39 w.params,s₁.heap,G⟩:=Ok.of KX T.nolimit T.g T.b T.builtins hsys (tab _)
  obtain ⟨_,T',he,rfl⟩:=yd ok rfl ⟨_,_,xc _,xt _⟩ (d:=10) (ns:=ns) (by omega)
  refine rD (c:=⟨PySem.Challenge.rw_ui0504_06.row.prog,w,hx06.heap_1_39 w.params,s₁.heap,G⟩) rfl wl he ?_ rfl fun h' t' kp=>GoodW.toG ?_
  · exact ⟨by show 1+claimMargin+4 * 26<900; unfold claimMargin; omega,by show 4+20 * 26<9000; omega,rfl⟩
  · refine ⟨.inl ⟨.bool true,.bool true,[],rfl,?_,.bool true,?_,?_⟩,kp,rfl,hg⟩
    · intro cls; rfl
    · kernel_rfl
    · exact fun _=>⟨.nil,fun _ ha=>nomatch ha⟩
end Mine.Internal
end
theorem PySem.Challenge.cw_ui0504_06_holds : PySem.Challenge.rw_ui0504_06.Holds :=
  Mine.Internal.hx06

