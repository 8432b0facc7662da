import PyProof.Rows.All
import Wide.All
import OpenK.AllK
import PySem.Value
import KE.KDictSum
import KE.KDictOf
import KE.KIntText
import PyProof.ExcInit
import PyProof.ExcBaseAll.ValueError
import PyProof.InstStoreFacts
import KE.KSuperObj
import OpenK.KCell
import KE.KTryMore
import PyProof.RulesAs
import PyProof.NsDelKeeps
import PyProof.ExcArgs
import PyProof.Rows.ListMul
import PyProof.WalkInts
import PyProof.Conv_int_bool
import PySem.Challenge.RW_ui0504_04
set_option Elab.async false
set_option linter.unusedVariables false
set_option genSizeOf false
set_option genInjectivity false
set_option maxRecDepth 100000
theorem Mine.lb {n m : Nat} (h : Nat.ble n m = true) : n ≤ m := Nat.le_of_ble_eq_true h
section
namespace Mine
inductive Ty where | str | int | tuple | list | dict | bool | type | range
inductive Bf where | len | sorted | max
inductive AV where
 | none | bool (b : Bool) | int (i : Int) | str (s : List Nat) | ref (r : Nat) | obj (a : Nat) | typ (t : Ty) | bi (f : Bf)
inductive AO where
 | inst (C : Nat) (fs : List (Nat × AV))
 | dict (es : List (AV × AV)) (ep : Nat)
 | list (xs : List AV)
 | tuple (xs : List AV)
 | range (lo hi : Int)
 | exc (C : Nat) (fs : List (Nat × AV))
inductive Bop where | add | sub | mul | mod | fdiv
inductive Cop where | eq | ne | lt | le | gt | ge | is | isnt | isin | notin
mutual
inductive PE where
 | none | bool (b : Bool) | int (i : Int) | str (s : List Nat) | bad
 | loc (x : Nat) | glb (x : Nat)
 | attr (o : PE) (a : Nat)
 | call (f : PE) (args : PEs)
 | meth (o : PE) (m : Nat) (args : PEs)
 | bin (op : Bop) (l r : PE) | cmp (op : Cop) (l r : PE) | cmp2 (a : PE) (o1 : Cop) (b : PE) (o2 : Cop) (c : PE)
 | and (l : PEs) | or (l : PEs) | not (e : PE) | neg (e : PE)
 | sub (o i : PE) | slice (o : PE) (up : Bool) (i : PE)
 | list (l : PEs) | tuple (l : PEs) | dict (l : PEs)
 | listc (elt : PE) (xs : List Nat) (it : PE) (ifs : PEs)
 | dictc (k v : PE) (x : Nat) (it : PE) (ifs : PEs)
 | setc (elt : PE) (x : Nat) (it : PE) (ifs : PEs)
inductive PEs where
 | nil
 | cons (e : PE) (l : PEs)
end
mutual
inductive PS where
 | expr (e : PE) | ret (e : PE) | ret0 | asg (x : Nat) (e : PE) | asgA (o : PE) (a : Nat) (e : PE) | asgS (o i e : PE) | asgT (xs : List Nat) (e : PE) | asgW (xs : List Nat) (e : PE) | asgC (x : Nat) (v : PE) (xs : List Nat) (it : PE) (ifs : PEs)
 | delS (o i : PE) | ite (t : PE) (b e : PSs) | whl (t : PE) (b : PSs) | for1 (xs : List Nat) (it : PE) (b : PSs)
 | raise (e : PE) | reraise | try (b : PSs) (cls : Nat) (nm : Nat) (h : PSs) | pass | bad
inductive PSs where
 | nil
 | cons (s : PS) (l : PSs)
end


structure FI where
 params : List Nat
 dfl : List AV
 body : PSs
structure CI where
 meths : List (Nat × Nat)
 flds : List Nat
structure Tab where
 fns : List (Nat × FI)
 cls : List (Nat × CI)
 glb : List (Nat × AV)
 top : List (Nat × List AV)
noncomputable abbrev Loc := List (Nat × AV)
noncomputable def lk {α : Type} (l : List (Nat × α)) (x : Nat) : Option α := @List.rec _ (fun _ => Option α) none (fun p _ r => cond (Nat.beq p.1 x) (some p.2) r) l
noncomputable def pt {α : Type} (l : List (Nat × α)) (x : Nat) (v : α) : List (Nat × α) := @List.rec _ (fun _ => List (Nat × α)) [(x, v)] (fun p t r => cond (Nat.beq p.1 x) ((p.1, v) :: t) (p :: r)) l
theorem beq_no {a b : Nat} (h : a ≠ b) : Nat.beq a b = false := Bool.eq_false_iff.mpr fun e => h (Nat.eq_of_beq_eq_true e)
theorem lk_cons {α : Type} (k : Nat) (w : α) (r : List (Nat × α)) (x : Nat) : lk ((k, w) :: r) x = if k = x then some w else lk r x := by
 show cond (Nat.beq k x) (some w) (lk r x) = _
 by_cases h : k = x
 ·rw [if_pos h, h, Nat.beq_refl]; rfl
 ·rw [if_neg h, beq_no h]; rfl
theorem pt_cons {α : Type} (k : Nat) (w : α) (r : List (Nat × α)) (x : Nat) (v : α) : pt ((k, w) :: r) x v = if k = x then (k, v) :: r else (k, w) :: pt r x v := by
 show cond (Nat.beq k x) ((k, v) :: r) ((k, w) :: pt r x v) = _
 by_cases h : k = x
 ·rw [if_pos h, h, Nat.beq_refl]; rfl
 ·rw [if_neg h, beq_no h]; rfl
theorem lk_pt {α : Type} (l : List (Nat × α)) (x : Nat) (v : α) (y : Nat) : lk (pt l x v) y = if y = x then some v else lk l y := by
 induction l with
 | nil =>
  show lk [(x, v)] y = _
  rw [lk_cons]
  by_cases h : x = y
  ·rw [if_pos h, if_pos h.symm]
  ·rw [if_neg h, if_neg (Ne.symm h)]
 | cons p r ih =>
  obtain ⟨k, w⟩ := p
  rw [pt_cons]
  by_cases h : k = x
  ·subst h
   rw [if_pos rfl, lk_cons, lk_cons]
   by_cases q : k = y
   ·rw [if_pos q, if_pos q.symm]
   ·rw [if_neg q, if_neg (Ne.symm q), if_neg q]
  ·rw [if_neg h, lk_cons, lk_cons, ih]
   by_cases q : k = y
   ·subst q; rw [if_pos rfl, if_pos rfl, if_neg h]
   ·rw [if_neg q, if_neg q]
noncomputable def dec (f : Nat) : Nat → List Nat := @Nat.rec (fun _ => Nat → List Nat) (fun _ => []) (fun _ ih c => cond (Nat.beq c 0) [] (((c - 1) % 256) :: ih ((c - 1) / 256))) f
noncomputable def nm (c : Nat) : List Nat := dec c c
structure Hp where
 m : Nat → Option AO
 n : Nat
noncomputable def Hp.get (T : Hp) (r : Nat) : Option AO := if r < T.n then T.m r else none
noncomputable def hnew (T : Hp) (o : AO) : Hp := ⟨fun r => if r = T.n then some o else T.m r, T.n + 1⟩
noncomputable def hput (T : Hp) (r : Nat) (o : AO) : Hp := ⟨fun x => if x = r then some o else T.m x, T.n⟩
theorem lt_of_get {T : Hp} {r : Nat} {o : AO} (h : T.get r = some o) : r < T.n := by
 unfold Hp.get at h
 by_cases q : r < T.n
 ·exact q
 ·rw [if_neg q] at h; cases h
theorem get_hnew (T : Hp) (o : AO) (r : Nat) : (hnew T o).get r = if r = T.n then some o else T.get r := by
 show (if r < T.n + 1 then (if r = T.n then some o else T.m r) else none) = if r = T.n then some o else if r < T.n then T.m r else none
 by_cases q : r = T.n
 ·rw [if_pos q, if_pos q, if_pos (by rw [q]; exact Nat.lt_succ_self _)]
 ·rw [if_neg q, if_neg q]
  by_cases p : r < T.n
  ·rw [if_pos p, if_pos (Nat.lt_succ_of_lt p)]
  ·rw [if_neg p, if_neg fun z => (Nat.lt_succ_iff_lt_or_eq.mp z).elim p q]
theorem get_new (T : Hp) (o : AO) : (hnew T o).get T.n = some o := by rw [get_hnew, if_pos rfl]
theorem get_old {T : Hp} {o a : AO} {r : Nat} (h : T.get r = some a) : (hnew T o).get r = some a := by rw [get_hnew, if_neg (Nat.ne_of_lt (lt_of_get h))]; exact h
theorem get_hput (T : Hp) (o : AO) (r x : Nat) (lt : r < T.n) : (hput T r o).get x = if x = r then some o else T.get x := by
 show (if x < T.n then (if x = r then some o else T.m x) else none) = if x = r then some o else if x < T.n then T.m x else none
 by_cases q : x = r
 ·rw [if_pos q, if_pos q, if_pos (by rw [q]; exact lt)]
 ·rw [if_neg q, if_neg q]
theorem get_put {T : Hp} {o a : AO} {r : Nat} (h : T.get r = some a) : (hput T r o).get r = some o := by rw [get_hput T o r r (lt_of_get h), if_pos rfl]
theorem get_ne {T : Hp} {o a b : AO} {r x : Nat} (h : T.get r = some a) (ne : x ≠ r) (g : T.get x = some b) : (hput T r o).get x = some b := by rw [get_hput T o r x (lt_of_get h), if_neg ne]; exact g
end Mine
end
section
open PySem PySem.W PyProof.Rows
namespace Mine
noncomputable abbrev S (l : List Nat) : Str := ⟨l.toArray⟩
noncomputable abbrev nmS (c : Nat) : Str := S (nm c)

noncomputable def enc (l : List Nat) : Nat := @List.rec Nat (fun _ => Nat) 0 (fun d _ r => r * 256 + d + 1) l
theorem enc_dec (f : Nat) : ∀ c : Nat, c ≤ f → enc (dec f c) = c := by
 induction f with
 | zero => intro c h; rw [Nat.le_zero.mp h]; rfl
 | succ f ih =>
  intro c h
  show enc (cond (Nat.beq c 0) [] (((c - 1) % 256) :: dec f ((c - 1) / 256))) = c
  by_cases hc : c = 0
  ·subst hc; rfl
  ·rw [beq_no hc]
   show enc (dec f ((c - 1) / 256)) * 256 + (c - 1) % 256 + 1 = c
   rw [ih _ (by omega)]
   omega
theorem nm_inj {a b : Nat} (h : nm a = nm b) : a = b := by
 have := congrArg enc h
 unfold nm at this
 rwa [enc_dec _ _ (Nat.le_refl _), enc_dec _ _ (Nat.le_refl _)] at this
theorem S_inj {a b : List Nat} (h : S a = S b) : a = b := by injection h with h; exact congrArg Array.toList h
theorem nmS_inj {a b : Nat} (h : nmS a = nmS b) : a = b := nm_inj (S_inj h)

noncomputable def Ty.nm : Ty → String
 | .str => "str" | .int => "int" | .tuple => "tuple" | .list => "list" | .dict => "dict" | .bool => "bool" | .type => "type" | .range => "range"
noncomputable def Bf.id : Bf → String
 | .len => "len" | .sorted => "sorted" | .max => "max"

noncomputable def VR (n : Nat) (ρ : Nat → Addr) : AV → Value → Prop
 | .none, v => v = .none
 | .bool b, v => v = .bool b
 | .int i, v => ∃ t, v = .int i t
 | .str s, v => ∃ t, v = .str (S s) t
 | .ref r, v => r < n ∧ v = .ref (ρ r)
 | .obj a, v => v = .ref a
 | .typ t, v => v = .type t.nm
 | .bi f, v => v = .builtin f.id
noncomputable def VRs (n : Nat) (ρ : Nat → Addr) : List AV → List Value → Prop
 | [], [] => True
 | a :: as, v :: vs => VR n ρ a v ∧ VRs n ρ as vs
 | _, _ => False
theorem VR.up {n n' : Nat} {ρ ρ' : Nat → Addr} (hn : n ≤ n') (hr : ∀ i, i < n → ρ' i = ρ i) : ∀ {a : AV} {v : Value}, VR n ρ a v → VR n' ρ' a v
 | .ref r, v, ⟨h1, h2⟩ => ⟨Nat.lt_of_lt_of_le h1 hn, by rw [hr r h1]; exact h2⟩
 | .none, _, h | .bool _, _, h | .int _, _, h | .str _, _, h | .obj _, _, h | .typ _, _, h | .bi _, _, h => h
theorem VRs.up {n n' : Nat} {ρ ρ' : Nat → Addr} (hn : n ≤ n') (hr : ∀ i, i < n → ρ' i = ρ i) {a : List AV} {v : List Value} (h : VRs n ρ a v) : VRs n' ρ' a v := by
 induction a generalizing v with
 | nil => cases v with
  | nil => trivial
  | cons => exact h.elim
 | cons x a ih => cases v with
  | nil => exact h.elim
  | cons y v => exact ⟨VR.up hn hr h.1, ih h.2⟩
noncomputable def FsR (n : Nat) (ρ : Nat → Addr) : List (Nat × AV) → List DictEntry → Prop
 | [], [] => True
 | (k, a) :: as, e :: es => (∃ t, e.key = .str (nmS k) t) ∧ VR n ρ a e.val ∧ FsR n ρ as es
 | _, _ => False
noncomputable def KR {K : Type} (n : Nat) (ρ : Nat → Addr) (is : AV → K → Prop) : List (AV × AV) → List (K × Value) → Prop
 | [], [] => True
 | (k, a) :: as, (x, v) :: es => is k x ∧ VR n ρ a v ∧ KR n ρ is as es
 | _, _ => False
noncomputable def isS : AV → Str → Prop
 | .str s, x => x = S s
 | _, _ => False
noncomputable def isI : AV → Int → Prop
 | .int i, x => x = i
 | _, _ => False
theorem FsR.up {n n' : Nat} {ρ ρ' : Nat → Addr} (hn : n ≤ n') (hr : ∀ i, i < n → ρ' i = ρ i) {a : List (Nat × AV)} {v : List DictEntry} (h : FsR n ρ a v) : FsR n' ρ' a v := by
 induction a generalizing v with
 | nil => cases v with
  | nil => trivial
  | cons => exact h.elim
 | cons x a ih => cases v with
  | nil => exact h.elim
  | cons y v => exact ⟨h.1, VR.up hn hr h.2.1, ih h.2.2⟩
theorem KR.up {K : Type} {is : AV → K → Prop} {n n' : Nat} {ρ ρ' : Nat → Addr} (hn : n ≤ n') (hr : ∀ i, i < n → ρ' i = ρ i) {a : List (AV × AV)} {v : List (K × Value)} (h : KR n ρ is a v) : KR n' ρ' is a v := by
 induction a generalizing v with
 | nil => cases v with
  | nil => trivial
  | cons => exact h.elim
 | cons x a ih => cases v with
  | nil => exact h.elim
  | cons y v => exact ⟨h.1, VR.up hn hr h.2.1, ih h.2.2⟩
structure Cx where
 prog : Program
 w : World
 K : Frag
 hb : Heap
 G : Tab

noncomputable def DR (c : Cx) (n : Nat) (ρ : Nat → Addr) (h : Heap) (a : Addr) (es : List (AV × AV)) (ep : Nat) : Prop :=
 (a == sysModules) = false ∧ ((∃ kvs, h.DictAt (strKind c.prog c.w) a kvs ep ∧ KR n ρ isS es kvs) ∨ (∃ kvs, h.DictAt (intKind c.prog c.w) a kvs ep ∧ KR n ρ isI es kvs))
theorem DR.up {c : Cx} {n n' : Nat} {ρ ρ' : Nat → Addr} (hn : n ≤ n') (hr : ∀ i, i < n → ρ' i = ρ i) {h h' : Heap} {a : Addr} (ka : ∀ o, h.get? a = some o → h'.get? a = some o) {es : List (AV × AV)} {ep : Nat} (x : DR c n ρ h a es ep) : DR c n' ρ' h' a es ep := by
 obtain ⟨x, ⟨kvs, y, z⟩ | ⟨kvs, y, z⟩⟩ := x
 ·exact ⟨x, .inl ⟨kvs, y.at' ka, z.up hn hr⟩⟩
 ·exact ⟨x, .inr ⟨kvs, y.at' ka, z.up hn hr⟩⟩
noncomputable def OR (c : Cx) (n : Nat) (ρ : Nat → Addr) (h : Heap) (a d : Addr) : AO → Prop
 | .inst C fs => h.get? a = some (instObj C d) ∧ ∃ es k, h.get? d = some (dictOf es k) ∧ FsR n ρ fs es
 | .dict es ep => DR c n ρ h a es ep
 | .list xs => ∃ vs k, h.get? a = some (listOf vs.toArray k) ∧ VRs n ρ xs vs
 | .tuple xs => ∃ vs k, h.get? a = some { cls := .type "tuple", data := .seq vs.toArray k } ∧ VRs n ρ xs vs
 | .range lo hi => ∃ t1 t2 t3, h.get? a = some { cls := .type "range", data := .fields #[.int lo t1, .int hi t2, .int 1 t3] }
 | .exc C fs => (∃ o ws, h.get? a = some o ∧ o.cls = .ref C ∧ o.dict = some d ∧ o.data = .fields ws) ∧ ∃ es k, h.get? d = some (dictOf es k) ∧ FsR n ρ fs es
theorem OR.up {c : Cx} {n n' : Nat} {ρ ρ' : Nat → Addr} (hn : n ≤ n') (hr : ∀ i, i < n → ρ' i = ρ i) {h h' : Heap} {a d : Addr} (ka : ∀ o, h.get? a = some o → h'.get? a = some o) (kd : ∀ o, h.get? d = some o → h'.get? d = some o) :
  ∀ {o : AO}, OR c n ρ h a d o → OR c n' ρ' h' a d o
 | .inst _ _, x => And.imp (ka _) (Exists.imp fun _ => Exists.imp fun _ => And.imp (kd _) (FsR.up hn hr)) x
 | .dict _ _, x => DR.up hn hr ka x
 | .list _, x => Exists.imp (fun _ => Exists.imp fun _ => And.imp (ka _) (VRs.up hn hr)) x
 | .tuple _, x => Exists.imp (fun _ => Exists.imp fun _ => And.imp (ka _) (VRs.up hn hr)) x
 | .range _ _, x => Exists.imp (fun _ => Exists.imp fun _ => Exists.imp fun _ => ka _) x
 | .exc _ _, x => And.imp (Exists.imp fun _ => Exists.imp fun _ => And.imp (ka _) id) (Exists.imp fun _ => Exists.imp fun _ => And.imp (kd _) (FsR.up hn hr)) x

noncomputable abbrev Live (h : Heap) (a : Addr) : Prop := ∃ o, h.get? a = some o
theorem dead_ne {h : Heap} {a b : Addr} (x : Live h a) (y : h.get? b = none) : a ≠ b := fun e => by
 obtain ⟨o, q⟩ := x
 rw [e, y] at q; cases q
theorem dead_end (h : Heap) {a : Addr} (l : h.objs.size ≤ a) : h.get? a = none := by
 cases q : h.get? a with
 | none => rfl
 | some o => exact absurd (Nat.lt_of_lt_of_le (Heap.lt_size q) l) (Nat.lt_irrefl _)
noncomputable abbrev Dl (h : Heap) (a : Addr) : Prop := ∃ o es k, h.get? a = some o ∧ o.data = .dict es k
noncomputable def Off (c : Cx) (ρ δ : Nat → Addr) (n : Nat) (a : Addr) : Prop := ∀ i, 1 ≤ i → i < n → ρ i ≠ a ∧ δ i ≠ a
structure HR (c : Cx) (ρ δ : Nat → Addr) (T : Hp) (n : Nat) (h : Heap) : Prop where
 base : ∀ b o, c.hb.get? b = some o → h.get? b = some o
 obj : ∀ i o, T.get i = some o → i < n ∧ OR c n ρ h (ρ i) (δ i) o
 new : ∀ i, 1 ≤ i → i < n → c.hb.get? (ρ i) = none ∧ c.hb.get? (δ i) = none
 apart : ∀ i j, i < n → j < n → i ≠ j → ρ i ≠ ρ j ∧ ρ i ≠ δ j ∧ δ i ≠ δ j
 liv : ∀ i, i < n → Live h (ρ i) ∧ Live h (δ i)
 ro : 1 ≤ n
 old : ∀ i, i < 1 → Live c.hb (ρ i) ∧ Live c.hb (δ i)
structure Go (c : Cx) (X : Addr → Prop) (ρ δ : Nat → Addr) (n : Nat) (h : Heap) (ρ' δ' : Nat → Addr) (n' : Nat) (h' : Heap) : Prop where
 le : n ≤ n'
 same : ∀ i, i < n → ρ' i = ρ i ∧ δ' i = δ i
 fresh : ∀ i, n ≤ i → i < n' → h.get? (ρ' i) = none ∧ h.get? (δ' i) = none
 keep : ∀ b o, h.get? b = some o → Off c ρ δ n b → ¬ X b → ∃ sl, h'.get? b = some { o with slots := sl } ∧ ((∃ es k, o.data = .dict es k) ∨ sl = o.slots)
 live : ∀ b, Live h b → Live h' b
 dct : ∀ b, Dl h b → Off c ρ δ n b → Dl h' b
noncomputable abbrev No : Addr → Prop := fun _ => False
section
variable {c : Cx} {X Y : Addr → Prop} {ρ δ ρ' δ' ρ'' δ'' : Nat → Addr} {n n' n'' : Nat} {h h' h'' : Heap}
theorem Go.refl : Go c X ρ δ n h ρ δ n h :=
 ⟨Nat.le_refl _, fun _ _ => ⟨rfl, rfl⟩, fun i h1 h2 => absurd h2 (Nat.not_lt.mpr h1), fun _ o e _ _ => ⟨o.slots, e, .inr rfl⟩, fun _ x => x, fun _ x _ => x⟩
theorem Go.weak (g : Go c X ρ δ n h ρ' δ' n' h') (k : ∀ a, Live h a → X a → Y a) : Go c Y ρ δ n h ρ' δ' n' h' := ⟨g.le, g.same, g.fresh, fun b o e x y => g.keep b o e x fun z => y (k b ⟨o, e⟩ z), g.live, g.dct⟩
theorem Go.any (g : Go c No ρ δ n h ρ' δ' n' h') : Go c Y ρ δ n h ρ' δ' n' h' := g.weak fun _ _ z => z.elim
theorem Go.off (g : Go c X ρ δ n h ρ' δ' n' h') {a : Addr} (x : Off c ρ δ n a) (hl : Live h a) : Off c ρ' δ' n' a := fun i h1 h2 => by
 by_cases q : i < n
 ·rw [(g.same i q).1, (g.same i q).2]; exact x i h1 q
 ·have := g.fresh i (Nat.not_lt.mp q) h2
  exact ⟨Ne.symm (dead_ne hl this.1), Ne.symm (dead_ne hl this.2)⟩
theorem Go.dead (g : Go c X ρ δ n h ρ' δ' n' h') {a : Addr} (x : h'.get? a = none) : h.get? a = none := by
 cases q : h.get? a with
 | none => rfl
 | some o => obtain ⟨o', e⟩ := g.live a ⟨o, q⟩; rw [x] at e; cases e
theorem Go.trans (g : Go c X ρ δ n h ρ' δ' n' h') (g' : Go c X ρ' δ' n' h' ρ'' δ'' n'' h'') : Go c X ρ δ n h ρ'' δ'' n'' h'' where
 le := Nat.le_trans g.le g'.le
 same := fun i q => by
  have q' := Nat.lt_of_lt_of_le q g.le
  rw [(g'.same i q').1, (g'.same i q').2]; exact g.same i q
 fresh := fun i h1 h2 => by
  by_cases q : i < n'
  ·rw [(g'.same i q).1, (g'.same i q).2]; exact g.fresh i h1 q
  ·have := g'.fresh i (Nat.not_lt.mp q) h2
   exact ⟨g.dead this.1, g.dead this.2⟩
 keep := fun b o e x y => let ⟨_, e1, d1⟩ := g.keep b o e x y; let ⟨sl, e2, d2⟩ := g'.keep b _ e1 (g.off x ⟨o, e⟩) y; ⟨sl, e2, d2.elim .inl fun q => d1.imp id q.trans⟩
 live := fun b x => g'.live b (g.live b x)
 dct := fun b x y => g'.dct b (g.dct b x y) (g.off y (let ⟨o, _, _, e, _⟩ := x; ⟨o, e⟩))
theorem Go.vr (g : Go c X ρ δ n h ρ' δ' n' h') {a : AV} {v : Value} (x : VR n ρ a v) : VR n' ρ' a v := x.up g.le fun i q => (g.same i q).1
theorem Go.exact (g : Go c X ρ δ n h ρ' δ' n' h') {b : Addr} {o : Obj} (e : h.get? b = some o) (x : Off c ρ δ n b) (y : ¬ X b) (nd : ∀ es k, o.data ≠ .dict es k) : h'.get? b = some o := by
 obtain ⟨sl, q, ⟨es, k, z⟩ | rfl⟩ := g.keep b o e x y
 ·exact absurd z (nd es k)
 ·exact q
theorem Go.of_keeps (k : ∀ b o, h.get? b = some o → h'.get? b = some o) : Go c X ρ δ n h ρ δ n h' :=
 ⟨Nat.le_refl _, fun _ _ => ⟨rfl, rfl⟩, fun i h1 h2 => absurd h2 (Nat.not_lt.mpr h1), fun b o e _ _ => ⟨o.slots, k b o e, .inr rfl⟩, fun b ⟨o, e⟩ => ⟨o, k b o e⟩, fun b ⟨o, es, i, e, f⟩ _ => ⟨o, es, i, k b o e, f⟩⟩
theorem Go.of_ext {a : Addr} (k : Heap.ExtBut a h h') (l : Live h a → Live h' a) (ld : Dl h a → Dl h' a) (x : X a) : Go c X ρ δ n h ρ δ n h' :=
 ⟨Nat.le_refl _, fun _ _ => ⟨rfl, rfl⟩, fun i h1 h2 => absurd h2 (Nat.not_lt.mpr h1), fun b o e _ y => ⟨o.slots, k b o (fun q => y (q ▸ x)) e, .inr rfl⟩, fun b z => by
  by_cases q : b = a
  ·subst q; exact l z
  ·obtain ⟨o, e⟩ := z; exact ⟨o, k b o q e⟩, fun b z _ => by
  by_cases q : b = a
  ·subst q; exact ld z
  ·obtain ⟨o, es, i, e, f⟩ := z; exact ⟨o, es, i, k b o q e, f⟩⟩
end
theorem HR.of_keeps {c : Cx} {ρ δ : Nat → Addr} {T : Hp} {n : Nat} {h h' : Heap} (x : HR c ρ δ T n h) (k : ∀ b o, h.get? b = some o → h'.get? b = some o) : HR c ρ δ T n h' where
 base := fun b o e => k b o (x.base b o e)
 obj := fun i o e => ⟨(x.obj i o e).1, (x.obj i o e).2.up (Nat.le_refl _) (fun _ _ => rfl) (k _) (k _)⟩
 new := x.new
 apart := x.apart
 liv := fun i q => ⟨let ⟨o, e⟩ := (x.liv i q).1; ⟨o, k _ _ e⟩, let ⟨o, e⟩ := (x.liv i q).2; ⟨o, k _ _ e⟩⟩
 ro := x.ro
 old := x.old
theorem HR.of_ext {c : Cx} {ρ δ : Nat → Addr} {T : Hp} {n : Nat} {h h' : Heap} {a : Addr} (x : HR c ρ δ T n h) (k : Heap.ExtBut a h h') (off : Off c ρ δ n a) (hb : c.hb.get? a = none) : HR c ρ δ T n h' := by
 have ne : ∀ i, i < n → ρ i ≠ a ∧ δ i ≠ a := fun i hi => by
  by_cases r : 1 ≤ i
  ·exact off i r hi
  ·have := x.old i (Nat.not_le.mp r)
   exact ⟨dead_ne this.1 hb, dead_ne this.2 hb⟩
 refine ⟨fun b o e => k b o (dead_ne ⟨o, e⟩ hb) (x.base b o e), fun i o e => ?_, x.new, x.apart, fun i q => ?_, x.ro, x.old⟩
 ·have q := x.obj i o e
  exact ⟨q.1, q.2.up (Nat.le_refl _) (fun _ _ => rfl) (fun o e => k _ o (ne i q.1).1 e) (fun o e => k _ o (ne i q.1).2 e)⟩
 ·obtain ⟨⟨o1, e1⟩, ⟨o2, e2⟩⟩ := x.liv i q
  exact ⟨⟨o1, k _ _ (ne i q).1 e1⟩, ⟨o2, k _ _ (ne i q).2 e2⟩⟩

structure FR (c : Cx) (ρ δ : Nat → Addr) (n : Nat) (loc : Loc) (env : Env) (h : Heap) : Prop where
 kind : env.scope.kind = .function
 glo : env.globals = mainGlobals
 bui : env.builtins = builtinsNs
 offL : Off c ρ δ n env.locals
 hbL : c.hb.get? env.locals = none
 offC : ∀ x a, env.cells.lookup x = some a → Off c ρ δ n a ∧ a ≠ env.locals ∧ Live h a
 hbC : ∀ x a, env.kindOf x = some .cell → env.cells.lookup x = some a → c.hb.get? a = none
 inj : ∀ x y a, env.cells.lookup x = some a → env.cells.lookup y = some a → x = y
 ns : ∃ m, h.Ns env.locals m ∧ ∀ x v, lk loc x = some v → env.kindOf (nmS x) = some .local → ∃ val, m (nmS x) = some val ∧ VR n ρ v val
 cel : ∀ x v, lk loc x = some v → env.kindOf (nmS x) = some .cell ∨ env.kindOf (nmS x) = some .free → ∃ a val, env.cells.lookup (nmS x) = some a ∧ h.IsCell a (some val) ∧ VR n ρ v val
 celE : ∀ x, env.kindOf (nmS x) = some .cell → ∃ a v, env.cells.lookup (nmS x) = some a ∧ h.IsCell a v
theorem live_ns {h : Heap} {a : Addr} {m : Str → Option Value} (x : h.Ns a m) : Live h a := let ⟨o, _, _, e, _⟩ := x; ⟨o, e⟩
theorem live_cell {h : Heap} {a : Addr} {v : Option Value} (x : h.IsCell a v) : Live h a := let ⟨o, e, _⟩ := x; ⟨o, e⟩
theorem FR.goX {c : Cx} {X : Addr → Prop} {ρ δ ρ' δ' : Nat → Addr} {n n' : Nat} {h h' : Heap} {loc : Loc} {env : Env} (f : FR c ρ δ n loc env h) (g : Go c X ρ δ n h ρ' δ' n' h') (hx : ∀ a, a = env.locals ∨ (∃ x, env.cells.lookup x = some a) → ¬ X a) : FR c ρ' δ' n' loc env h' := by
 obtain ⟨m, hm, hv⟩ := f.ns
 have kc : ∀ {x a v}, env.cells.lookup x = some a → h.IsCell a v → h'.IsCell a v := fun {x a v} e ⟨o, ho, hd⟩ => let ⟨_, q, _⟩ := g.keep a o ho (f.offC x a e).1 (hx a (.inr ⟨x, e⟩)); ⟨_, q, hd⟩
 refine ⟨f.kind, f.glo, f.bui, g.off f.offL (live_ns hm), f.hbL, ?_, f.hbC, f.inj, ⟨m, ?_, fun x v e k => ?_⟩, fun x v e k => ?_, fun x k => ?_⟩
 ·exact fun x a e => ⟨g.off (f.offC x a e).1 (f.offC x a e).2.2, (f.offC x a e).2.1, g.live a (f.offC x a e).2.2⟩
 ·obtain ⟨o, es, ep, ho, r⟩ := hm
  obtain ⟨_, q, _⟩ := g.keep _ o ho f.offL (hx _ (.inl rfl))
  exact ⟨_, es, ep, q, r⟩
 ·obtain ⟨val, a, b⟩ := hv x v e k
  exact ⟨val, a, g.vr b⟩
 ·obtain ⟨a, val, q, i, r⟩ := f.cel x v e k
  exact ⟨a, val, q, kc q i, g.vr r⟩
 ·obtain ⟨a, v, q, i⟩ := f.celE x k
  exact ⟨a, v, q, kc q i⟩
theorem FR.go {c : Cx} {ρ δ ρ' δ' : Nat → Addr} {n n' : Nat} {h h' : Heap} {loc : Loc} {env : Env} (f : FR c ρ δ n loc env h) (g : Go c No ρ δ n h ρ' δ' n' h') : FR c ρ' δ' n' loc env h' := f.goX g fun _ _ z => z

end Mine
end
section
open PySem PySem.W PyProof.Rows
namespace Mine
noncomputable abbrev Kd := Str → Option NameKind
noncomputable def Bop.op : Bop → Operator
 | .add => .Add | .sub => .Sub | .mul => .Mult | .mod => .Mod | .fdiv => .FloorDiv
noncomputable def Cop.op : Cop → CmpOp
 | .eq => .Eq | .ne => .NotEq | .lt => .Lt | .le => .LtE | .gt => .Gt | .ge => .GtE | .is => .Is | .isnt => .IsNot | .isin => .In | .notin => .NotIn
noncomputable def own? (k : Option NameKind) : Bool := match k with
 | some .local => true | some .cell => true | some .free => true | _ => false
noncomputable def isDbg (x : Str) : Bool := x == ("__debug__" : Str) || x == ("__classdict__" : Str)
noncomputable def notSuper : Expr → Bool
 | .Call (.Name id _) [] [] _ => id != ("super" : Str)
 | _ => true
noncomputable def kdC (kd : Kd) (scope : Scope) : Kd := fun x => (scope.names.map fun p => if (p.2 == NameKind.free && kd p.1 == some .cell) then (p.1, NameKind.cell) else p).lookup x
noncomputable def cellish (k : Option NameKind) (x : Str) : Bool := k == some .cell && nmS (enc x.cps.toList) == x
noncomputable def compOk (kd : Kd) (scope : Scope) (xs : List Nat) : Bool :=
 scope.kind == .function && scope.names.all (fun p => p.2 != .cell && (p.2 != .free || cellish (kd p.1) p.1) && (p.2 != .local || scope.names.lookup p.1 == some .local) && (p.2 != .local || xs.any (fun x => nmS x == p.1) || p.1 == (".0" : Str))) &&
  xs.all fun x => scope.names.lookup (nmS x) == some .local
noncomputable def notSet : PySem.Expr → Bool
 | .Set .. => false
 | _ => true
noncomputable def notSlice : PySem.Expr → Bool
 | .Slice .. => false
 | _ => true
noncomputable def mine? (k : Option NameKind) : Bool := match k with
 | some .local => true | some .cell => true | _ => false
noncomputable def MNs (kd : Kd) : List Nat → List PySem.Expr → Prop
 | [], l => l = []
 | x :: xs, l => ∃ np l', l = .Name (nmS x) np :: l' ∧ mine? (kd (nmS x)) = true ∧ MNs kd xs l'
noncomputable def MT (kd : Kd) (xs : List Nat) (t : PySem.Expr) : Prop :=
 (∃ x np, xs = [x] ∧ t = .Name (nmS x) np ∧ mine? (kd (nmS x)) = true) ∨ (∃ l k p, 2 ≤ xs.length ∧ t = .Tuple l k p ∧ MNs kd xs l)
noncomputable def noStar : PySem.Expr → Bool
 | .Starred .. => false
 | _ => true
noncomputable def lenE : PEs → Nat
 | .nil => 0
 | .cons _ l => lenE l + 1
mutual
noncomputable def ME : PE → Kd → PySem.Expr → Prop
 | .bad, _, _ => True
 | .none, _, x => ∃ k p, x = .Constant .none k p
 | .bool b, _, x => ∃ k p, x = .Constant (.bool b) k p
 | .int i, _, x => ∃ k p, x = .Constant (.int i) k p
 | .str s, _, x => ∃ k p, x = .Constant (.str (S s)) k p
 | .loc y, kd, x => ∃ p, x = .Name (nmS y) p ∧ own? (kd (nmS y)) = true ∧ isDbg (nmS y) = false
 | .glb y, kd, x => ∃ p, x = .Name (nmS y) p ∧ kd (nmS y) = some .globalImplicit ∧ isDbg (nmS y) = false
 | .attr o a, kd, x => ∃ o' p, x = .Attribute o' (nmS a) p ∧ ME o kd o' ∧ notSuper o' = true
 | .call f l, kd, x => ∃ f' l' p, x = .Call f' l' [] p ∧ (∃ y np, f' = .Name y np) ∧ ME f kd f' ∧ MEs l kd l'
 | .meth o m l, kd, x => ∃ o' l' ap p, x = .Call (.Attribute o' (nmS m) ap) l' [] p ∧ ME o kd o' ∧ notSuper o' = true ∧ MEs l kd l' ∧ (ap.endLine == p.line) = true ∧ lenE l < 29
 | .bin op l r, kd, x => ∃ l' r' p, x = .BinOp l' op.op r' p ∧ ME l kd l' ∧ ME r kd r'
 | .cmp op l r, kd, x => ∃ l' r' p, x = .Compare l' [op.op] [r'] p ∧ ME l kd l' ∧ ME r kd r' ∧ behindInMarks op.op r' = false
 | .cmp2 a o1 b o2 z, kd, x => ∃ a' b' z' p, x = .Compare a' [o1.op, o2.op] [b', z'] p ∧ ME a kd a' ∧ ME b kd b' ∧ ME z kd z' ∧ behindInMarks o1.op b' = false ∧ behindInMarks o2.op z' = false
 | .and l, kd, x => ∃ l' p, x = .BoolOp .And l' p ∧ MEs l kd l'
 | .or l, kd, x => ∃ l' p, x = .BoolOp .Or l' p ∧ MEs l kd l'
 | .not e, kd, x => ∃ e' p, x = .UnaryOp .Not e' p ∧ ME e kd e'
 | .neg e, kd, x => ∃ e' p, x = .UnaryOp .USub e' p ∧ ME e kd e'
 | .sub o i, kd, x => ∃ o' i' p, x = .Subscript o' i' p ∧ ME o kd o' ∧ ME i kd i' ∧ notSlice i' = true
 | .slice o up i, kd, x => ∃ o' i' sp p, x = .Subscript o' (cond up (.Slice none (some i') none sp) (.Slice (some i') none none sp)) p ∧ ME o kd o' ∧ ME i kd i'
 | .list l, kd, x => ∃ l' p, x = .List l' p ∧ MEs l kd l' ∧ lenE l < 1000
 | .tuple l, kd, x => ∃ l' k p, x = .Tuple l' k p ∧ MEs l kd l' ∧ lenE l < 1000
 | .dict l, kd, x => ∃ ks vs p, x = .Dict ks vs p ∧ MPs l kd ks vs ∧ lenE l ≤ 30
 | .listc v xs it ifs, kd, x => ∃ v' tg it' ifs' scope p, x = .ListComp v' [⟨tg, it', ifs', 0⟩] scope p ∧ ME it kd it' ∧ notSet it' = true ∧ compOk kd scope xs = true ∧ ME v (kdC kd scope) v' ∧ MT (kdC kd scope) xs tg ∧ MEs ifs (kdC kd scope) ifs'
 | .dictc k v y it ifs, kd, x => ∃ k' v' tg it' ifs' scope p, x = .DictComp k' v' [⟨tg, it', ifs', 0⟩] scope p ∧ ME it kd it' ∧ notSet it' = true ∧ compOk kd scope [y] = true ∧ ME k (kdC kd scope) k' ∧ ME v (kdC kd scope) v' ∧ MT (kdC kd scope) [y] tg ∧ MEs ifs (kdC kd scope) ifs'
 | .setc .., _, _ => False
noncomputable def MEs : PEs → Kd → List PySem.Expr → Prop
 | .nil, _, l => l = []
 | .cons e l, kd, y => ∃ e' l', y = e' :: l' ∧ ME e kd e' ∧ MEs l kd l' ∧ noStar e' = true
noncomputable def MPs : PEs → Kd → List (Option PySem.Expr) → List PySem.Expr → Prop
 | .nil, _, ks, vs => ks = [] ∧ vs = []
 | .cons k .nil, _, _, _ => False
 | .cons k (.cons v l), kd, ks, vs => ∃ k' v' ks' vs', ks = some k' :: ks' ∧ vs = v' :: vs' ∧ ME k kd k' ∧ ME v kd v' ∧ MPs l kd ks' vs'
end
noncomputable def notTup : PySem.Expr → Bool
 | .Tuple .. => false
 | _ => true
noncomputable def swp (kd : Kd) (e : PySem.Expr) (y : Str) (np : Pos) : Bool := match e with
 | .ListComp _ _ s p => kd y == some .local && np.line == p.line && !(s.names.any fun q => q.1 == y && (q.2 == .local || q.2 == .cell))
 | _ => false
noncomputable def notComp : PySem.Expr → Bool
 | .ListComp .. => false | .SetComp .. => false | .DictComp .. => false
 | _ => true
noncomputable def swapB (kd : Kd) (ts vs : List PySem.Expr) : Option (List Str) :=
 if !(ts.length == 2 || ts.length == 3) || vs.length != ts.length then none
 else if vs.any (fun | .Starred .. => true | _ => false) then none
 else
  let line := (ts.head?.map (·.pos.line)).getD 0
  let names := ts.filterMap fun
   | .Name id pos => if kd id == some .local && pos.line == line then some id else none
   | _ => none
  if names.length != ts.length || names.eraseDups.length != names.length then none
  else if vs.all (foldedForSure 8) then none
  else if vs.all (constantsAlone 8) then none
  else some names
mutual
noncomputable def MS : PS → Kd → Stmt → Prop
 | .bad, _, _ => True
 | .pass, _, x => ∃ p, x = .Pass p
 | .ret0, _, x => ∃ p, x = .Return none p
 | .ret e, kd, x => ∃ e' p, x = .Return (some e') p ∧ ME e kd e'
 | .expr e, kd, x => ∃ e' p, x = .Expr e' p ∧ ME e kd e' ∧ notComp e' = true
 | .asg y e, kd, x => ∃ np e' p, x = .Assign [.Name (nmS y) np] e' p ∧ ME e kd e' ∧ (notComp e' = true ∨ kd (nmS y) = some .cell) ∧ mine? (kd (nmS y)) = true
 | .asgC y v xs it ifs, kd, x => ∃ np e' p, x = .Assign [.Name (nmS y) np] e' p ∧ ME (.listc v xs it ifs) kd e' ∧ swp kd e' (nmS y) np = true
 | .asgA o a e, kd, x => ∃ o' ap e' p, x = .Assign [.Attribute o' (nmS a) ap] e' p ∧ ME o kd o' ∧ ME e kd e'
 | .asgS o i e, kd, x => ∃ o' i' sp e' p, x = .Assign [.Subscript o' i' sp] e' p ∧ ME o kd o' ∧ ME i kd i' ∧ ME e kd e' ∧ notComp e' = true
 | .asgT xs e, kd, x => ∃ l k tp e' p, x = .Assign [.Tuple l k tp] e' p ∧ ME e kd e' ∧ MNs kd xs l ∧ 2 ≤ xs.length ∧ notTup e' = true
 | .asgW xs e, kd, x => ∃ l k tp vs a b p, x = .Assign [.Tuple l k tp] (.Tuple vs a b) p ∧ ME e kd (.Tuple vs a b) ∧ swapB kd l vs = some (xs.map nmS)
 | .delS o i, kd, x => ∃ o' i' sp p, x = .Delete [.Subscript o' i' sp] p ∧ ME o kd o' ∧ ME i kd i'
 | .ite t b e, kd, x => ∃ t' b' e' p, x = .If t' b' e' p ∧ ME t kd t' ∧ MSs b kd b' ∧ MSs e kd e'
 | .whl t b, kd, x => ∃ t' b' p, x = .While t' b' [] p ∧ ME t kd t' ∧ MSs b kd b'
 | .for1 xs it b, kd, x => ∃ t it' b' p, x = .For t it' b' [] p ∧ MT kd xs t ∧ ME it kd it' ∧ notSet it' = true ∧ MSs b kd b'
 | .try b cl y h, kd, x => ∃ b' np h' hp p, x = .Try b' [.ExceptHandler (some (.Name (nmS cl) np)) (some (nmS y)) h' hp] [] [] p ∧ MSs b kd b' ∧ MSs h kd h' ∧ kd (nmS cl) = some .globalImplicit ∧ isDbg (nmS cl) = false ∧ kd (nmS y) = some .local
 | .raise e, kd, x => ∃ e' p, x = .Raise (some e') none p ∧ ME e kd e'
 | .reraise, _, x => ∃ p, x = .Raise none none p
noncomputable def MSs : PSs → Kd → List Stmt → Prop
 | .nil, _, l => l = []
 | .cons s l, kd, y => ∃ s' l', y = s' :: l' ∧ MS s kd s' ∧ MSs l kd l'
end
end Mine
end
section
open PySem PySem.W PyProof.Rows
namespace Mine
noncomputable def Room (d : Nat) (A : Around) : Prop := A.depth + 4 * d < 900 ∧ A.units + 20 * d < 9000 ∧ A.handled = none
noncomputable abbrev Sh (s : Shared) (h : Heap) (t : Nat) : Shared := { s with heap := h, toks := t }
noncomputable abbrev Own (env : Env) : Addr → Prop := fun a => a = env.locals ∨ ∃ x, env.cells.lookup x = some a
noncomputable def FrL (c : Cx) (ρ δ : Nat → Addr) (n : Nat) (h : Heap) (l : List Env) : Prop := ∀ e ∈ l, e.scope.kind ≠ .module ∧ ∃ L, e.frame = some L ∧ c.hb.get? L = none ∧ Off c ρ δ n L ∧ Dl h L
structure Fm (c : Cx) (ρ δ : Nat → Addr) (n : Nat) (A : Around) (h : Heap) (l : List Env) : Prop where
 fr : A.frames = some l
 ok : FrL c ρ δ n h l
theorem Dl.live {h : Heap} {a : Addr} (x : Dl h a) : Live h a := let ⟨o, _, _, e, _⟩ := x; ⟨o, e⟩
theorem Fm.go {c : Cx} {X : Addr → Prop} {ρ δ ρ' δ' : Nat → Addr} {n n' : Nat} {h h' : Heap} {A : Around} {l : List Env} (f : Fm c ρ δ n A h l) (g : Go c X ρ δ n h ρ' δ' n' h') : Fm c ρ' δ' n' A h' l :=
 ⟨f.fr, fun e he => let ⟨a, L, b, d, o, x⟩ := f.ok e he; ⟨a, L, b, d, g.off o x.live, g.dct L x o⟩⟩
theorem Fm.ext {c : Cx} {ρ δ : Nat → Addr} {n : Nat} {h h' : Heap} {A : Around} {l : List Env} {I : Addr} (f : Fm c ρ δ n A h l) (k : Heap.ExtBut I h h') (nd : ¬ Dl h I) : Fm c ρ δ n A h' l :=
 ⟨f.fr, fun e he => let ⟨a, L, b, d, o, x⟩ := f.ok e he; ⟨a, L, b, d, o, let ⟨ob, es, i, q, r⟩ := x; ⟨ob, es, i, k L ob (fun z => nd (z ▸ x)) q, r⟩⟩⟩
structure At (c : Cx) (d : Nat) (loc : Loc) (T : Hp) (env : Env) (A : Around) (s : Shared) (ρ δ : Nat → Addr) : Prop where
 fr : FR c ρ δ T.n loc env s.heap
 hr : HR c ρ δ T T.n s.heap
 ro : Room d A
 fm : ∃ e l, Fm c ρ δ T.n A s.heap (e :: l) ∧ e.frame = env.frame
noncomputable def Kv (c : Cx) (s : Shared) (ρ δ : Nat → Addr) (T T' : Hp) (v : AV) (Q : Value → Shared → Prop) : Prop :=
 ∀ ρ' δ' h' t' val, Go c No ρ δ T.n s.heap ρ' δ' T'.n h' → HR c ρ' δ' T' T'.n h' → VR T'.n ρ' v val → Q val (Sh s h' t')
noncomputable def Ev (c : Cx) (e : PE) (d : Nat) (loc : Loc) (T : Hp) (v : AV) (T' : Hp) : Prop :=
 ∀ (x : PySem.Expr) (env : Env) (A : Around) (s : Shared) (ρ δ : Nat → Addr) (Q E : Value → Shared → Prop), ME e env.kindOf x → At c d loc T env A s ρ δ → Kv c s ρ δ T T' v Q → wpAny (model c.prog c.w) A (eval x env) Q E s
noncomputable def Evs (c : Cx) (l : PEs) (d : Nat) (loc : Loc) (T : Hp) (vs : List AV) (T' : Hp) : Prop :=
 ∀ (x : List PySem.Expr) (env : Env) (A : Around) (s : Shared) (ρ δ : Nat → Addr) (Q : List Value → Shared → Prop) (E : Value → Shared → Prop) (pos : Pos), MEs l env.kindOf x → At c d loc T env A s ρ δ →
  (∀ ρ' δ' h' t' vals, Go c No ρ δ T.n s.heap ρ' δ' T'.n h' → HR c ρ' δ' T' T'.n h' → VRs T'.n ρ' vs vals → Q vals (Sh s h' t')) → wpAny (model c.prog c.w) A (spliced (backTo pos (starEach x env))) Q E s
noncomputable def Tr (c : Cx) (e : PE) (d : Nat) (loc : Loc) (T : Hp) (b : Bool) (T' : Hp) : Prop :=
 ∀ (x : PySem.Expr) (env : Env) (A : Around) (s : Shared) (ρ δ : Nat → Addr) (Q : Bool → Shared → Prop) (E : Value → Shared → Prop), ME e env.kindOf x → At c d loc T env A s ρ δ →
  (∀ ρ' δ' h' t', Go c No ρ δ T.n s.heap ρ' δ' T'.n h' → HR c ρ' δ' T' T'.n h' → Q b (Sh s h' t')) → wpAny (model c.prog c.w) A (isTrue x env (eval x env)) Q E s
noncomputable def Ca (c : Cx) (a : Nat) (args : List AV) (d : Nat) (T : Hp) (v : AV) (T' : Hp) : Prop :=
 ∀ (A : Around) (s : Shared) (ρ δ : Nat → Addr) (R : Result → Shared → Prop) (vals : List Value), VRs T.n ρ args vals → HR c ρ δ T T.n s.heap → Room d A → (∃ l, Fm c ρ δ T.n A s.heap l) → Kv c s ρ δ T T' v (fun v s' => R (.ok (.ret v)) s') → codeAny (model c.prog c.w) A (.call (.ref a) ⟨vals, []⟩) R s
inductive Fl where | nxt (l : Loc) | ret (v : AV)
noncomputable def Kf (c : Cx) (env : Env) (s : Shared) (ρ δ : Nat → Addr) (T T' : Hp) (f : Fl) (Q : Flow → Shared → Prop) : Prop := match f with
 | .nxt l => ∀ ρ' δ' h' t', Go c (Own env) ρ δ T.n s.heap ρ' δ' T'.n h' → HR c ρ' δ' T' T'.n h' → FR c ρ' δ' T'.n l env h' → Q .next (Sh s h' t')
 | .ret v => ∀ ρ' δ' h' t' val, Go c (Own env) ρ δ T.n s.heap ρ' δ' T'.n h' → HR c ρ' δ' T' T'.n h' → VR T'.n ρ' v val → Q (.ret val) (Sh s h' t')
noncomputable def St (c : Cx) (st : PS) (d : Nat) (loc : Loc) (T : Hp) (f : Fl) (T' : Hp) : Prop :=
 ∀ (x : Stmt) (env : Env) (A : Around) (s : Shared) (ρ δ : Nat → Addr) (Q : Flow → Shared → Prop) (E : Value → Shared → Prop), MS st env.kindOf x → At c d loc T env A s ρ δ → Kf c env s ρ δ T T' f Q → wpAny (model c.prog c.w) A (exec x env) Q E s
noncomputable def Ex (c : Cx) (b : PSs) (d : Nat) (loc : Loc) (T : Hp) (f : Fl) (T' : Hp) : Prop :=
 ∀ (x : List Stmt) (env : Env) (A : Around) (s : Shared) (ρ δ : Nat → Addr) (Q : Flow → Shared → Prop) (E : Value → Shared → Prop), MSs b env.kindOf x → At c d loc T env A s ρ δ → Kf c env s ρ δ T T' f Q → wpAny (model c.prog c.w) A (execs x env) Q E s
section
variable {c : Cx} {d : Nat} {loc loc' : Loc} {T T1 T2 T3 : Hp} {env : Env} {A : Around} {s : Shared} {ρ δ ρ' δ' : Nat → Addr} {h' : Heap} {t' : Nat} {v w : AV} {f : Fl} {Q : Value → Shared → Prop} {QF : Flow → Shared → Prop}
theorem At.go (a : At c d loc T env A s ρ δ) (g : Go c No ρ δ T.n s.heap ρ' δ' T1.n h') (hr : HR c ρ' δ' T1 T1.n h') : At c d loc T1 env A (Sh s h' t') ρ' δ' := ⟨a.fr.go g, hr, a.ro, let ⟨e, l, f, q⟩ := a.fm; ⟨e, l, f.go g, q⟩⟩
theorem At.fgo {X : Addr → Prop} (a : At c d loc T env A s ρ δ) (g : Go c X ρ δ T.n s.heap ρ' δ' T1.n h') : ∃ e l, Fm c ρ' δ' T1.n A h' (e :: l) ∧ e.frame = env.frame := let ⟨e, l, f, q⟩ := a.fm; ⟨e, l, f.go g, q⟩
theorem At.fl {X : Addr → Prop} (a : At c d loc T env A s ρ δ) (g : Go c X ρ δ T.n s.heap ρ' δ' T1.n h') : ∃ l, Fm c ρ' δ' T1.n A h' l := let ⟨e, l, f, q⟩ := a.fm; ⟨_, f.go g⟩
theorem Kv.go (k : Kv c s ρ δ T T2 v Q) (g : Go c No ρ δ T.n s.heap ρ' δ' T1.n h') : Kv c (Sh s h' t') ρ' δ' T1 T2 v Q := fun ρ2 δ2 h2 t2 val g2 => k ρ2 δ2 h2 t2 val (g.trans g2)
theorem Kf.go (k : Kf c env s ρ δ T T2 f QF) (g : Go c (Own env) ρ δ T.n s.heap ρ' δ' T1.n h') : Kf c env (Sh s h' t') ρ' δ' T1 T2 f QF := by
 cases f with
 | nxt l => exact fun ρ2 δ2 h2 t2 g2 => k ρ2 δ2 h2 t2 (g.trans g2)
 | ret v => exact fun ρ2 δ2 h2 t2 val g2 => k ρ2 δ2 h2 t2 val (g.trans g2)
theorem Kv.here (k : Kv c s ρ δ T T v Q) (hr : HR c ρ δ T T.n s.heap) {val : Value} (vr : VR T.n ρ v val) : Q val s := k ρ δ s.heap s.toks val Go.refl hr vr
end
section
variable {c : Cx} {d : Nat} {loc loc' : Loc} {T T1 T2 T3 : Hp} {v w : AV} {e e2 : PE}
theorem R_none : Ev c .none d loc T .none T := by
 rintro _ env A s ρ δ Q E ⟨k, p, rfl⟩ a ct
 exact wpAny_Constant_none (ct.here a.hr rfl)
theorem R_bool {b : Bool} : Ev c (.bool b) d loc T (.bool b) T := by
 rintro _ env A s ρ δ Q E ⟨k, p, rfl⟩ a ct
 exact wpAny_Constant_bool (ct.here a.hr rfl)
theorem R_ret (e1 : Ev c e d loc T v T1) : St c (.ret e) d loc T (.ret v) T1 := by
 rintro _ env A s ρ δ Q E ⟨e', p, rfl, me⟩ a ct
 exact wpAny_Return_some (e1 _ env A s ρ δ _ E me a fun ρ1 δ1 h' t1 va g1 hr1 vr1 => ct ρ1 δ1 h' t1 va g1.any hr1 vr1)
end
end Mine
end
section
open PySem PySem.W PyProof.Rows
namespace Mine
noncomputable def ext (ρ : Nat → Addr) (n : Nat) (a : Addr) : Nat → Addr := fun i => if i = n then a else ρ i
theorem ext_at (ρ : Nat → Addr) (n : Nat) (a : Addr) : ext ρ n a n = a := if_pos rfl
theorem ext_lt {ρ : Nat → Addr} {n i : Nat} {a : Addr} (h : i < n) : ext ρ n a i = ρ i := if_neg (Nat.ne_of_lt h)
section
variable {c : Cx} {X : Addr → Prop} {ρ δ : Nat → Addr} {T T' : Hp} {n : Nat} {h h' : Heap} {ao : AO}
theorem HR.grow {a d : Addr} (hr : HR c ρ δ T n h) (e : ∀ j, T'.get j = if j = n then some ao else T.get j) (ha : h.get? a = none) (hd : h.get? d = none) (ha' : Live h' a) (hd' : Live h' d)
  (k : ∀ b o, h.get? b = some o → h'.get? b = some o) (or : OR c (n + 1) (ext ρ n a) h' a d ao) : HR c (ext ρ n a) (ext δ n d) T' (n + 1) h' ∧ Go c X ρ δ n h (ext ρ n a) (ext δ n d) (n + 1) h' := by
 have cs : ∀ {i}, i < n + 1 → i < n ∨ i = n := fun q => Nat.lt_or_eq_of_le (Nat.le_of_lt_succ q)
 have dh : ∀ {x}, h.get? x = none → c.hb.get? x = none := fun {x} q => by
  cases z : c.hb.get? x with
  | none => rfl
  | some o => have := hr.base x o z; rw [q] at this; cases this
 have lv : ∀ {x}, Live h x → Live h' x := fun ⟨o, q⟩ => ⟨o, k _ _ q⟩
 refine ⟨⟨fun b o q => k b o (hr.base b o q), ?_, ?_, ?_, ?_, Nat.le_succ_of_le hr.ro, ?_⟩, ⟨Nat.le_succ n, fun i q => ⟨ext_lt q, ext_lt q⟩, ?_, fun b o q _ _ => ⟨o.slots, k b o q, .inr rfl⟩, fun b q => lv q, fun b ⟨o, es, i, q, r⟩ _ => ⟨o, es, i, k b o q, r⟩⟩⟩
 ·intro i o q
  rw [e] at q
  by_cases hi : i = n
  ·subst hi
   rw [if_pos rfl] at q
   cases q
   rw [ext_at, ext_at]
   exact ⟨Nat.lt_succ_self _, or⟩
  ·rw [if_neg hi] at q
   obtain ⟨q1, q2⟩ := hr.obj i o q
   rw [ext_lt q1, ext_lt q1]
   exact ⟨Nat.lt_succ_of_lt q1, q2.up (Nat.le_succ n) (fun j hj => ext_lt hj) (k _) (k _)⟩
 ·intro i h1 h2
  rcases cs h2 with q | rfl
  ·rw [ext_lt q, ext_lt q]; exact hr.new i h1 q
  ·rw [ext_at, ext_at]; exact ⟨dh ha, dh hd⟩
 ·intro i j h1 h2 ne
  rcases cs h1 with q | rfl
  ·rcases cs h2 with p | rfl
   ·rw [ext_lt q, ext_lt p, ext_lt q, ext_lt p]; exact hr.apart i j q p ne
   ·have := hr.liv i q
    rw [ext_lt q, ext_at, ext_at, ext_lt q]
    exact ⟨dead_ne this.1 ha, dead_ne this.1 hd, dead_ne this.2 hd⟩
  ·rcases cs h2 with p | rfl
   ·have := hr.liv j p
    rw [ext_lt p, ext_at, ext_at, ext_lt p]
    exact ⟨Ne.symm (dead_ne this.1 ha), Ne.symm (dead_ne this.2 ha), Ne.symm (dead_ne this.2 hd)⟩
   ·exact absurd rfl ne
 ·intro i q
  rcases cs q with q | rfl
  ·rw [ext_lt q, ext_lt q]; exact ⟨lv (hr.liv i q).1, lv (hr.liv i q).2⟩
  ·rw [ext_at, ext_at]; exact ⟨ha', hd'⟩
 ·intro i q
  have := Nat.lt_of_lt_of_le q hr.ro
  rw [ext_lt this, ext_lt this]; exact hr.old i q
 ·intro i h1 h2
  obtain rfl : i = n := Nat.le_antisymm (Nat.le_of_lt_succ h2) h1
  rw [ext_at, ext_at]; exact ⟨ha, hd⟩
theorem HR.push {o : Obj} (hr : HR c ρ δ T n h) (e : ∀ j, T'.get j = if j = n then some ao else T.get j) (hf : o.isFreed = false) (or : OR c (n + 1) (ext ρ n h.objs.size) (h.push o) h.objs.size h.objs.size ao) :
  HR c (ext ρ n h.objs.size) (ext δ n h.objs.size) T' (n + 1) (h.push o) ∧ Go c X ρ δ n h (ext ρ n h.objs.size) (ext δ n h.objs.size) (n + 1) (h.push o) :=
 hr.grow e (dead_end _ (Nat.le_refl _)) (dead_end _ (Nat.le_refl _)) ⟨_, Heap.get?_push_size _ hf⟩ ⟨_, Heap.get?_push_size _ hf⟩ (fun b o' q => Heap.get?_push_of_some _ q) or
theorem HR.turn {r : Nat} (hr : HR c ρ δ T n h) (ro : 1 ≤ r) (lt : r < n) (e : ∀ j, T'.get j = if j = r then some ao else T.get j) (k : ∀ b o, b ≠ ρ r → b ≠ δ r → h.get? b = some o → h'.get? b = some o) (lr : Live h' (ρ r)) (ld : Live h' (δ r)) (or : OR c n ρ h' (ρ r) (δ r) ao) :
  HR c ρ δ T' n h' ∧ Go c X ρ δ n h ρ δ n h' := by
 have lv : ∀ {x}, Live h x → Live h' x := fun {x} z => by
  by_cases q1 : x = ρ r
  ·subst q1; exact lr
  ·by_cases q2 : x = δ r
   ·subst q2; exact ld
   ·obtain ⟨o, e⟩ := z; exact ⟨o, k _ _ q1 q2 e⟩
 refine ⟨⟨fun b o q => ?_, ?_, hr.new, hr.apart, fun i q => ⟨lv (hr.liv i q).1, lv (hr.liv i q).2⟩, hr.ro, hr.old⟩, ⟨Nat.le_refl _, fun _ _ => ⟨rfl, rfl⟩, fun i h1 h2 => absurd h2 (Nat.not_lt.mpr h1), fun b o q x _ => ?_, fun b q => lv q, fun b ⟨o, es, i, q, r⟩ x => ⟨o, es, i, k b o (Ne.symm (x _ ro lt).1) (Ne.symm (x _ ro lt).2) q, r⟩⟩⟩
 ·have := hr.new r ro lt
  exact k b o (dead_ne ⟨o, q⟩ this.1) (dead_ne ⟨o, q⟩ this.2) (hr.base b o q)
 ·intro i o q
  rw [e] at q
  by_cases hi : i = r
  ·subst hi
   rw [if_pos rfl] at q
   cases q
   exact ⟨lt, or⟩
  ·rw [if_neg hi] at q
   obtain ⟨q1, q2⟩ := hr.obj i o q
   have a1 := hr.apart i r q1 lt hi
   have a2 := hr.apart r i lt q1 (Ne.symm hi)
   exact ⟨q1, q2.up (Nat.le_refl _) (fun _ _ => rfl) (fun o' q' => k _ o' a1.1 a1.2.1 q') (fun o' q' => k _ o' (Ne.symm a2.2.1) a1.2.2 q')⟩
 ·have := x r ro lt
  exact ⟨o.slots, k b o (Ne.symm this.1) (Ne.symm this.2) q, .inr rfl⟩
end
noncomputable section
structure ClsOk (K : Frag) (C : Nat) (ci : CI) : Prop where
 ga : findIn K (.ref C) "__getattribute__" = some (some (.builtin "object.__getattribute__"))
 hk : findIn K (.ref C) "__getattr__" = some none
 sa : findIn K (.ref C) "__setattr__" = some (some (.builtin "object.__setattr__"))
 over : plainOver K C = true
 makes : makesIn K C = true
 keep : keepIn K (.ref C) = true
 cd : ∃ cd, clsIn K C = some cd ∧ cd.hasDict = true
 flds : ∀ a, ci.flds.contains a = true → findIn K (.ref C) (nmS a) = some none
 meths : ∀ m f, lk ci.meths m = some f → findIn K (.ref C) (nmS m) = some (some (.ref f)) ∧ typeIn K (.ref f) = some (.type "function") ∧ keepIn K (.ref f) = true ∧ ci.flds.contains m = false
noncomputable def bindV : List Nat → List Value → List Value → Nat → Option (List (Str × Value))
 | [], [], _, _ => some []
 | x :: xs, a :: as, d, k => match bindV xs as d (k - 1) with | some l => some ((nmS x, a) :: l) | none => none
 | x :: xs, [], d, k => match Nat.beq k 0 with
  | true => match d with
   | v :: d' => match bindV xs [] d' 0 with | some l => some ((nmS x, v) :: l) | none => none
   | [] => none
  | false => none
 | [], _ :: _, _, _ => none
structure FnOk (K : Frag) (a : Nat) (fi : FI) : Prop where
 ex : ∃ o fd body dv, K.lookup a = some o ∧ o.data = .func fd ∧ fd.body = .stmts body ∧ codeIn K fd.code fd.qualname = true ∧ fd.closure = [] ∧ fd.scope.kind = .function ∧
  fd.scope.isCoroutine = false ∧ fd.scope.isGenerator = false ∧ fd.globals = mainGlobals ∧ fd.builtins = builtinsNs ∧ MSs fi.body (fun x => fd.scope.names.lookup x) body ∧
  VRs 0 (fun _ => 0) fi.dfl dv ∧ fi.params.Nodup ∧ (∀ x ∈ fi.params, fd.scope.names.lookup (nmS x) = some .local ∨ fd.scope.names.lookup (nmS x) = some .cell) ∧
  ∀ (vals : List Value) (b : List (Str × Value)), bindV fi.params vals (dv.drop (vals.length - (fi.params.length - fi.dfl.length))) (fi.params.length - fi.dfl.length) = some b → ∀ S, peek K S (bindArgs fd ⟨vals, []⟩) = some b
structure Ok (c : Cx) : Prop where
 k : c.K.In c.hb
 nolim : c.hb.NoLimit
 cls : ∀ C ci, lk c.G.cls C = some ci → ClsOk c.K C ci
 fns : ∀ a fi, lk c.G.fns a = some fi → FnOk c.K a fi
 keepF : ∀ a fi, lk c.G.fns a = some fi → keepIn c.K (.ref a) = true
 nss : ∃ mg mb, c.hb.Ns mainGlobals mg ∧ c.hb.Ns builtinsNs mb ∧ ∀ x : Str, x ≠ "__name__" → mb x = bootBuiltins x
 glb : ∀ x v, lk c.G.glb x = some v → ∃ val, VR 0 (fun _ => 0) v val ∧ (nsIn c.K mainGlobals (nmS x) = some (some val) ∨ (nsIn c.K mainGlobals (nmS x) = some none ∧ bootBuiltins (nmS x) = some val ∧ nmS x ≠ "__name__"))
 top : ∀ a xs, lk c.G.top a = some xs → ∃ vs k, c.hb.get? a = some { cls := .type "tuple", data := .seq vs.toArray k } ∧ VRs 0 (fun _ => 0) xs vs
 sysm : Live c.hb sysModules
section
variable {c : Cx} {ρ δ : Nat → Addr} {n : Nat} {h : Heap} {T : Hp}
theorem HR.k (hr : HR c ρ δ T n h) (ok : Ok c) : c.K.In h := ok.k.keeps hr.base

theorem isStr_nm {e : DictEntry} {k a : Nat} (hk : ∃ t, e.key = .str (nmS k) t) : e.key.isStr (nmS a) = Nat.beq k a := by
 obtain ⟨t, hk⟩ := hk
 rw [hk]
 show (nmS k == nmS a) = _
 cases q : Nat.beq k a with
 | true => rw [Nat.eq_of_beq_eq_true q]; exact beq_self_eq_true _
 | false => exact beq_false_of_ne fun e => Nat.ne_of_beq_eq_false q (nmS_inj e)
theorem FsR.norefs {fs : List (Nat × AV)} {es : List DictEntry} (h : FsR n ρ fs es) : es.any (·.refKey) = false := by
 induction fs generalizing es with
 | nil => cases es with
  | nil => rfl
  | cons => exact h.elim
 | cons p fs ih => cases es with
  | nil => exact h.elim
  | cons e es =>
   obtain ⟨t, h1⟩ := h.1
   rw [List.any_cons, ih h.2.2]
   show (e.refKey || false) = false
   unfold DictEntry.refKey
   rw [h1]; rfl
theorem FsR.look {a : Nat} {fs : List (Nat × AV)} {es : List DictEntry} (h : FsR n ρ fs es) :
  (∀ v, lk fs a = some v → ∃ e, es.find? (·.key.isStr (nmS a)) = some e ∧ VR n ρ v e.val) ∧ (lk fs a = none → es.find? (·.key.isStr (nmS a)) = none) := by
 induction fs generalizing es with
 | nil => cases es with
  | nil => exact ⟨fun _ e => (nomatch e), fun _ => rfl⟩
  | cons => exact h.elim
 | cons p fs ih => cases es with
  | nil => exact h.elim
  | cons e es =>
   have q := isStr_nm (a := a) h.1
   show (∀ v, cond (Nat.beq p.1 a) (some p.2) (lk fs a) = some v → _) ∧ (cond (Nat.beq p.1 a) (some p.2) (lk fs a) = none → _)
   rw [List.find?_cons, q]
   cases Nat.beq p.1 a with
   | true => exact ⟨fun _ e => by cases e; exact ⟨_, rfl, h.2.1⟩, fun e => by cases e⟩
   | false => exact ih h.2.2
theorem lookIn_fs {fs : List (Nat × AV)} {es : List DictEntry} {k a : Nat} (x : FsR n ρ fs es) :
  (∀ v, lk fs a = some v → ∃ val, lookIn (nmS a) (dictOf es k) = some (some val) ∧ VR n ρ v val) ∧ (lk fs a = none → lookIn (nmS a) (dictOf es k) = some none) := by
 have z := x.look (a := a)
 unfold lookIn
 dsimp only
 constructor
 ·intro v e
  obtain ⟨en, h1, h2⟩ := z.1 v e
  rw [h1]; exact ⟨_, rfl, h2⟩
 ·intro e
  rw [z.2 e]
  dsimp only
  rw [x.norefs]; rfl

theorem VR.handed {a : AV} {v : Value} (x : VR n ρ a v) : handedIn v = true := by
 cases a <;> first
  | (cases x; rfl)
  | (obtain ⟨t, rfl⟩ := x; rfl)
  | (obtain ⟨_, rfl⟩ := x; rfl)
  | (rename_i f; cases x; cases f <;> decide +kernel)

theorem InstAt_of {r : Nat} {C : Nat} {fs : List (Nat × AV)} (o : OR c n ρ h (ρ r) (δ r) (.inst C fs)) : ∃ es k, InstAt h (ρ r) (instObj C (δ r)) C (some (dictOf es k)) ∧ FsR n ρ fs es := by
 obtain ⟨h1, es, k, h2, h3⟩ := o
 exact ⟨es, k, ⟨h1, rfl, rfl, h2⟩, h3⟩

theorem cls_data {K : Frag} {D : Addr} {cd : ClassData} (h : clsIn K D = some cd) : ∃ o, K.lookup D = some o ∧ o.data = .cls cd := by
 unfold clsIn at h
 cases e : K.lookup D with
 | none => rw [e] at h; cases h
 | some o =>
  rw [e] at h
  obtain ⟨a, b, dt, sl⟩ := o
  cases dt <;> first | (cases h; exact ⟨_, rfl, rfl⟩) | cases h
theorem fo_value {K : Frag} {C : Addr} {cd : ClassData} {o : Obj} {name : Str} {val : Value} (h1 : clsIn K C = some cd) (h2 : findIn K (.ref C) name = some none) (hd : cd.hasDict = true) (hl : lookIn name o = some (some val)) : findObj K C (some o) name = some (.value val) := by
 unfold findObj
 rw [h1]
 show (findIn K (.ref C) name).bind _ = _
 rw [h2]
 show (W.ownOf cd (some o) name).bind _ = _
 unfold W.ownOf
 rw [hd, if_pos rfl]
 show (lookIn name o).bind _ = _
 rw [hl]
 rfl
theorem attr_leaf (ok : Ok c) {A : Around} {s : Shared} {r C a : Nat} {fs : List (Nat × AV)} {v : AV} {expr : Bool} {Q E : Value → Shared → Prop} (hr : HR c ρ δ T n s.heap) (ho : T.get r = some (.inst C fs)) {ci : CI} (hc : lk c.G.cls C = some ci) (hf : ci.flds.contains a = true) (hv : lk fs a = some v)
  (h : ∀ val, VR n ρ v val → Q val (Sh s s.heap (s.toks + 1))) : wpAny (model c.prog c.w) A (getAttr (.ref (ρ r)) (nmS a) expr) Q E s := by
 obtain ⟨es, k, I, F⟩ := InstAt_of (hr.obj r _ ho).2
 have CO := ok.cls C ci hc
 obtain ⟨cd, hcd, hd⟩ := CO.cd
 obtain ⟨val, hl, vr⟩ := (lookIn_fs (k := k) (a := a) F).1 v hv
 refine get_value (v := val) (hr.k ok) I CO.ga ?_ vr.handed (h val vr)
 exact fo_value hcd (CO.flds a hf) hd hl
end
end
section
variable {M : Model} {prog : Program} {w : World} {A : Around} {s : Shared} {env : Env} {Q E : Value → Shared → Prop}
theorem wp_base {o : PySem.Expr} {attr : Str} {whole : Sem Value} (hn : notSuper o = true) (h : wpAny M A whole Q E s) : wpAny M A (attributeBase o attr env whole) Q E s := by
 unfold attributeBase
 cases o <;> try exact h
 rename_i f args kws pos
 cases args with
 | cons => cases f <;> exact h
 | nil => cases kws with
  | cons => cases f <;> exact h
  | nil =>
   cases f <;> try exact h
   rename_i id p
   have : (id != ("super" : Str)) = true := hn
   dsimp only
   rw [if_pos (by rw [this]; rfl)]
   exact h
theorem wp_Attribute {value : PySem.Expr} {attr : Str} {pos : Pos} (hn : notSuper value = true) (h : wpAny (model prog w) A (eval value env) (fun o s₁ => wpAny (model prog w) A (getAttr o attr true) Q E s₁) E s) :
  wpAny (model prog w) A (eval (.Attribute value attr pos) env) Q E s := by
 show wpAny _ _ (attributeBase value attr env (eval value env) >>= fun o => standAt pos.atName >>= fun _ => holding [o] (getAttr o attr true) >>= fun r => letTemporaryGo value o r >>= fun _ => pure r) _ _ _
 refine wpAny_bind (wp_base hn (wpAny_mono h (fun o s₁ h₁ => wpAny_bind (wpAny_standAt (wpAny_bind (wpAny_holding (wpAny_mono h₁ (fun r s₂ h₂ => wpAny_bind (wpAny_letTemporaryGo (wpAny_pure h₂))) fun _ _ x => x))))) fun _ _ x => x))
end
end Mine
end
section
open PySem PySem.W PyProof.Rows
namespace Mine
section
variable {c : Cx} {T T' : Hp} {s : Shared} {ρ δ : Nat → Addr} {v : AV} {Q : Value → Shared → Prop} {ao : AO}
theorem Kv.push {ob : Obj} {t : Nat} (ct : Kv c s ρ δ T (hnew T ao) (.ref T.n) Q) (hr : HR c ρ δ T T.n s.heap) (hf : ob.isFreed = false) (or : OR c (T.n + 1) (ext ρ T.n s.heap.objs.size) (s.heap.push ob) s.heap.objs.size s.heap.objs.size ao) : Q (.ref s.heap.objs.size) (Sh s (s.heap.push ob) t) := by
 obtain ⟨r1, g1⟩ := hr.push (X := No) (get_hnew T ao) hf or
 exact ct _ _ _ t _ g1 r1 ⟨Nat.lt_succ_self _, by rw [ext_at]⟩
theorem ext_vrs {n : Nat} {a : Addr} {vs : List AV} {vals : List Value} (x : VRs n ρ vs vals) : VRs (n + 1) (ext ρ n a) vs vals := x.up (Nat.le_succ _) fun i q => ext_lt q
theorem VRs.len {n : Nat} {a : List AV} {v : List Value} (h : VRs n ρ a v) : a.length = v.length := by
 induction a generalizing v with
 | nil => cases v with
  | nil => rfl
  | cons => exact h.elim
 | cons x a ih => cases v with
  | nil => exact h.elim
  | cons y v => exact congrArg (· + 1) (ih h.2)
end
section
variable {c : Cx} {d : Nat} {loc : Loc} {T T1 T2 : Hp} {v : AV} {vs : List AV} {e : PE} {l : PEs}
theorem R_int {i : Int} : Ev c (.int i) d loc T (.int i) T := by
 rintro _ env A s ρ δ Q E ⟨k, p, rfl⟩ a ct
 exact wpAny_Constant_int (ct ρ δ s.heap (s.toks + 1) _ Go.refl a.hr ⟨_, rfl⟩)
theorem R_str {x : List Nat} : Ev c (.str x) d loc T (.str x) T := by
 rintro _ env A s ρ δ Q E ⟨k, p, rfl⟩ a ct
 exact wpAny_Constant_str (ct ρ δ s.heap (s.toks + 1) _ Go.refl a.hr ⟨_, rfl⟩)
theorem dbg_of {x : Str} (h : isDbg x = false) : (x == ("__debug__" : Str)) = false ∧ (x == ("__classdict__" : Str)) = false := Bool.or_eq_false_iff.mp h
theorem own_or {k : Option NameKind} (h : own? k = true) : k = some .local ∨ k = some .cell ∨ k = some .free := by
 cases k with
 | none => cases h
 | some k => cases k <;> first | exact .inl rfl | exact .inr (.inl rfl) | exact .inr (.inr rfl) | cases h
theorem R_loc {x : Nat} (hl : lk loc x = some v) : Ev c (.loc x) d loc T v T := by
 rintro _ env A s ρ δ Q E ⟨p, rfl, hk, hd⟩ a ct
 have fr := a.fr
 refine wpAny_Name ?_ (dbg_of hd).1
 rcases own_or hk with q | q | q
 ·obtain ⟨m, h1, h2⟩ := fr.ns
  obtain ⟨val, h3, h4⟩ := h2 x v hl q
  exact wpAny_loadName_local fr.kind q h1 h3 (ct.here a.hr h4)
 ·obtain ⟨b, val, h1, h2, h3⟩ := fr.cel x v hl (.inl q)
  exact wpAny_loadName_cell fr.kind q h1 h2 (ct.here a.hr h3)
 ·obtain ⟨b, val, h1, h2, h3⟩ := fr.cel x v hl (.inr q)
  exact wpAny_loadName_free fr.kind q h1 h2 (ct.here a.hr h3) (dbg_of hd).2
theorem R_glb (ok : Ok c) {x : Nat} (hl : lk c.G.glb x = some v) : Ev c (.glb x) d loc T v T := by
 rintro _ env A s ρ δ Q E ⟨p, rfl, hk, hd⟩ a ct
 have fr := a.fr; have hr := a.hr
 obtain ⟨val, vr, hg⟩ := ok.glb x v hl
 obtain ⟨mg, mb, h1, h2, h3⟩ := ok.nss
 have q : Q val s := ct.here hr (vr.up (Nat.zero_le _) fun i z => absurd z (Nat.not_lt_zero i))
 refine Calls.Name_function_global fr.kind hk ?_ (dbg_of hd).1
 rcases hg with hg | ⟨hg, hb, hn⟩
 ·exact Calls.loadGlobal_global (by rw [fr.glo]; exact h1.keeps hr.base) (mg_of ok.k h1 hg) q
 ·exact Calls.loadGlobal_builtin (by rw [fr.glo]; exact h1.keeps hr.base) (mg_none_of ok.k h1 hg) (by rw [fr.bui]; exact h2.keeps hr.base) ((h3 _ hn).trans hb) q
theorem R_attr (ok : Ok c) {a r C : Nat} {ci : CI} {fs : List (Nat × AV)} (e1 : Ev c e d loc T (.ref r) T1) (ho : T1.get r = some (.inst C fs)) (hc : lk c.G.cls C = some ci) (hf : ci.flds.contains a = true) (hy : lk fs a = some v) : Ev c (.attr e a) d loc T v T1 := by
 rintro _ env A s ρ δ Q E ⟨o', p, rfl, mo, ns⟩ at' ct
 refine wp_Attribute ns (e1 _ env A s ρ δ _ E mo at' fun ρ1 δ1 h' t1 va g1 hr1 vr1 => ?_)
 rw [vr1.2]
 exact attr_leaf ok (s := Sh s h' t1) hr1 ho hc hf hy fun val vr => ct ρ1 δ1 h' _ val g1 hr1 vr
theorem Rs_nil : Evs c .nil d loc T [] T := by
 rintro _ env A s ρ δ Q E pos rfl a ct
 exact wpAny_items_nil (ct ρ δ s.heap s.toks [] Go.refl a.hr trivial)
theorem star_no {x : PySem.Expr} {xs : List PySem.Expr} {env : Env} (h : noStar x = true) : starEach (x :: xs) env = (false, eval x env) :: starEach xs env := by
 cases x <;> first | rfl | cases h
theorem Rs_cons (e1 : Ev c e d loc T v T1) (e2 : Evs c l d loc T1 vs T2) : Evs c (.cons e l) d loc T (v :: vs) T2 := by
 rintro _ env A s ρ δ Q E pos ⟨x, xs, rfl, me, ms, ns⟩ a ct
 rw [star_no ns]
 refine Calls.spliced_cons (e1 _ env A s ρ δ _ E me a fun ρ1 δ1 h' t1 va g1 hr1 vr1 => ?_)
 exact e2 _ env A (Sh s h' t1) ρ1 δ1 _ E pos ms (a.go g1 hr1) fun ρ2 δ2 h2 t2 vals g2 hr2 vr2 => ct ρ2 δ2 h2 t2 (va :: vals) (g1.trans g2) hr2 ⟨g2.vr vr1, vr2⟩
theorem R_list (e1 : Evs c l d loc T vs T1) (hl : vs.length < 1000) : Ev c (.list l) d loc T (.ref T1.n) (hnew T1 (.list vs)) := by
 rintro _ env A s ρ δ Q E ⟨l', p, rfl, ms, _⟩ a ct
 refine wpAny_List (e1 _ env A s ρ δ _ E _ ms a fun ρ1 δ1 h' t1 vals g1 hr1 vr1 => ⟨?_, ?_⟩)
 ·rw [← vr1.len, sizeLine_eq]; exact Nat.le_trans (Nat.le_of_lt hl) (by decide)
 ·exact (Kv.go (t' := t1) ct g1).push hr1 rfl ⟨vals, 0, Heap.get?_push_size _ rfl, ext_vrs vr1⟩
theorem R_tuple (e1 : Evs c l d loc T vs T1) (hl : vs.length < 1000) : Ev c (.tuple l) d loc T (.ref T1.n) (hnew T1 (.tuple vs)) := by
 rintro _ env A s ρ δ Q E ⟨l', k, p, rfl, ms, _⟩ a ct
 refine wpAny_Tuple (e1 _ env A s ρ δ _ E _ ms a fun ρ1 δ1 h' t1 vals g1 hr1 vr1 => ⟨?_, ?_⟩)
 ·rw [← vr1.len, sizeLine_eq]; exact Nat.le_trans (Nat.le_of_lt hl) (by decide)
 ·exact (Kv.go (t' := t1) ct g1).push hr1 rfl ⟨vals, 0, Heap.get?_push_size _ rfl, ext_vrs vr1⟩
end
end Mine
end
section
open PySem PySem.W PyProof.Rows
namespace Mine
theorem mine_or {k : Option NameKind} (h : mine? k = true) : k = some .local ∨ k = some .cell := by
 cases k with
 | none => cases h
 | some k => cases k <;> first | exact .inl rfl | exact .inr rfl | cases h
section
variable {c : Cx} {loc : Loc} {T : Hp} {n : Nat} {env : Env} {A : Around} {s : Shared} {ρ δ : Nat → Addr} {E : Value → Shared → Prop}
theorem dl_ns {h : Heap} {a : Addr} {m : Str → Option Value} (x : h.Ns a m) : Dl h a := let ⟨o, es, ep, e, d, _⟩ := x; ⟨o, es, ep, e, d⟩
theorem no_dl {h : Heap} {a : Addr} {v : Option Value} (x : h.IsCell a v) (y : Dl h a) : False := by
 obtain ⟨o, e, d⟩ := x
 obtain ⟨o', es, k, e', d'⟩ := y
 rw [e] at e'; cases e'; rw [d] at d'; cases d'
noncomputable def StX (env : Env) (X : Addr → Prop) (x : Nat) : Prop := (env.kindOf (nmS x) = some .local → X env.locals) ∧ ∀ a, env.kindOf (nmS x) = some .cell → env.cells.lookup (nmS x) = some a → X a
theorem stx_own {x : Nat} : StX env (Own env) x := ⟨fun _ => .inl rfl, fun a _ e => .inr ⟨_, e⟩⟩
theorem store_sndX {X : Addr → Prop} {x : Nat} {v : AV} {val : Value} {Q : Unit → Shared → Prop} (fr : FR c ρ δ n loc env s.heap) (hr : HR c ρ δ T n s.heap) (vr : VR n ρ v val) (hk : mine? (env.kindOf (nmS x)) = true)
  (nx : ∀ h' t', Go c X ρ δ n s.heap ρ δ n h' → HR c ρ δ T n h' → FR c ρ δ n (pt loc x v) env h' → Q () (Sh s h' t')) (hX : StX env X x) : wpAny (model c.prog c.w) A (storeName env (nmS x) val) Q E s := by
 rcases mine_or hk with q | q
 ·obtain ⟨m, h1, h2⟩ := fr.ns
  refine wpAny_storeName_local q h1 (fun h' hn hs => nx h' _ (Go.of_ext hs.extBut (fun _ => live_ns hn) (fun _ => dl_ns hn) (hX.1 q)) (hr.of_ext hs.extBut fr.offL fr.hbL) ?_) (by rw [fr.kind]; rfl)
  refine ⟨fr.kind, fr.glo, fr.bui, fr.offL, fr.hbL, ?_, fr.hbC, fr.inj, ⟨_, hn, ?_⟩, ?_, ?_⟩
  ·intro y a e
   have := fr.offC y a e
   exact ⟨this.1, this.2.1, let ⟨o, e⟩ := this.2.2; ⟨o, hs.extBut _ o this.2.1 e⟩⟩
  ·intro y w e k
   rw [lk_pt] at e
   by_cases hy : y = x
   ·subst hy; rw [if_pos rfl] at e; cases e; exact ⟨val, if_pos rfl, vr⟩
   ·rw [if_neg hy] at e
    obtain ⟨u, h3, h4⟩ := h2 y w e k
    exact ⟨u, by rw [if_neg fun z => hy (nmS_inj z)]; exact h3, h4⟩
  ·intro y w e k
   rw [lk_pt] at e
   by_cases hy : y = x
   ·subst hy; rcases k with k | k <;> (rw [q] at k; cases k)
   ·rw [if_neg hy] at e
    obtain ⟨a, u, h3, h4, h5⟩ := fr.cel y w e k
    exact ⟨a, u, h3, h4.sameBut hs (fr.offC _ a h3).2.1, h5⟩
  ·intro y k
   obtain ⟨a, u, h3, h4⟩ := fr.celE y k
   exact ⟨a, u, h3, h4.sameBut hs (fr.offC _ a h3).2.1⟩
 ·obtain ⟨a, u, h1, h2⟩ := fr.celE x q
  have hoff := fr.offC _ a h1
  refine wpAny_storeName_cell fr.kind q h1 h2 (fun h' hc hs => nx h' s.toks (Go.of_ext hs.extBut (fun _ => live_cell hc) (fun z => (no_dl h2 z).elim) (hX.2 a q h1)) (hr.of_ext hs.extBut hoff.1 (fr.hbC _ a q h1)) ?_)
  obtain ⟨m, h3, h4⟩ := fr.ns
  have other : ∀ {y b w}, y ≠ x → env.cells.lookup (nmS y) = some b → s.heap.IsCell b w → h'.IsCell b w := fun {y b w} hy hb hw => hw.sameBut hs fun z => hy (nmS_inj (fr.inj _ _ a (z ▸ hb) h1))
  refine ⟨fr.kind, fr.glo, fr.bui, fr.offL, fr.hbL, ?_, fr.hbC, fr.inj, ⟨m, h3.sameBut hs (Ne.symm hoff.2.1), ?_⟩, ?_, ?_⟩
  ·intro y b e
   have := fr.offC y b e
   exact ⟨this.1, this.2.1, by
    by_cases z : b = a
    ·subst z; exact live_cell hc
    ·obtain ⟨o, q⟩ := this.2.2; exact ⟨o, hs.extBut _ o z q⟩⟩
  ·intro y w e k
   rw [lk_pt] at e
   by_cases hy : y = x
   ·subst hy; rw [q] at k; cases k
   ·rw [if_neg hy] at e; exact h4 y w e k
  ·intro y w e k
   rw [lk_pt] at e
   by_cases hy : y = x
   ·subst hy; rw [if_pos rfl] at e; cases e; exact ⟨a, val, h1, hc, vr⟩
   ·rw [if_neg hy] at e
    obtain ⟨b, u', h5, h6, h7⟩ := fr.cel y w e k
    exact ⟨b, u', h5, other hy h5 h6, h7⟩
  ·intro y k
   by_cases hy : y = x
   ·subst hy; exact ⟨a, _, h1, hc⟩
   ·obtain ⟨b, u', h5, h6⟩ := fr.celE y k
    exact ⟨b, u', h5, other hy h5 h6⟩
theorem store_snd {x : Nat} {v : AV} {val : Value} {Q : Unit → Shared → Prop} (fr : FR c ρ δ n loc env s.heap) (hr : HR c ρ δ T n s.heap) (vr : VR n ρ v val) (hk : mine? (env.kindOf (nmS x)) = true)
  (nx : ∀ h' t', Go c (Own env) ρ δ n s.heap ρ δ n h' → HR c ρ δ T n h' → FR c ρ δ n (pt loc x v) env h' → Q () (Sh s h' t')) : wpAny (model c.prog c.w) A (storeName env (nmS x) val) Q E s := store_sndX fr hr vr hk nx stx_own
end
section
variable {c : Cx} {ρ δ : Nat → Addr} {n : Nat} {T : Hp}
theorem FsR.put {a : Nat} {v : AV} {val : Value} {hsh : Int} {tk : Tok} (vr : VR n ρ v val) {fs : List (Nat × AV)} {es : List DictEntry} (h : FsR n ρ fs es) : FsR n ρ (pt fs a v) (putL (nmS a) hsh (.str (nmS a) tk) val es) := by
 induction fs generalizing es with
 | nil => cases es with
  | nil => exact ⟨⟨tk, rfl⟩, vr, trivial⟩
  | cons => exact h.elim
 | cons p fs ih => cases es with
  | nil => exact h.elim
  | cons e es =>
   have q := isStr_nm (a := a) h.1
   show FsR n ρ (cond (Nat.beq p.1 a) ((p.1, v) :: fs) (p :: pt fs a v)) _
   unfold putL
   rw [q]
   cases Nat.beq p.1 a with
   | true => rw [if_pos rfl]; exact ⟨h.1, vr, h.2.2⟩
   | false => rw [if_neg Bool.false_ne_true]; exact ⟨h.1, h.2.1, ih h.2.2⟩
theorem FsR.len {fs : List (Nat × AV)} {es : List DictEntry} (h : FsR n ρ fs es) : es.length = fs.length := by
 induction fs generalizing es with
 | nil => cases es with
  | nil => rfl
  | cons => exact h.elim
 | cons p fs ih => cases es with
  | nil => exact h.elim
  | cons e es => exact congrArg (· + 1) (ih h.2.2)
theorem putL_len (nmx : Str) (hsh : Int) (k v : Value) : ∀ es : List DictEntry, (putL nmx hsh k v es).length ≤ es.length + 1
 | [] => Nat.le_refl _
 | e :: r => by
  unfold putL
  split
  ·exact Nat.le_succ _
  ·exact Nat.succ_le_succ (putL_len nmx hsh k v r)
theorem setattr_leaf (ok : Ok c) {A : Around} {s : Shared} {r C a : Nat} {fs : List (Nat × AV)} {v : AV} {val : Value} {Q : Unit → Shared → Prop} {E : Value → Shared → Prop} (hr : HR c ρ δ T T.n s.heap) (ho : T.get r = some (.inst C fs)) {ci : CI} (hc : lk c.G.cls C = some ci) (hf : ci.flds.contains a = true)
  (hl : fs.length < 500) (hro : 1 ≤ r) (vr : VR T.n ρ v val)
  (nx : ∀ h' t', Go c No ρ δ T.n s.heap ρ δ T.n h' → HR c ρ δ (hput T r (.inst C (pt fs a v))) T.n h' → Q () (Sh s h' t')) : wpAny (model c.prog c.w) A (setAttr (.ref (ρ r)) (nmS a) val) Q E s := by
 obtain ⟨hlt, hor⟩ := hr.obj r _ ho
 obtain ⟨es, k, I, F⟩ := InstAt_of hor
 have CO := ok.cls C ci hc
 obtain ⟨cd, hcd, hd⟩ := CO.cd
 have X := hr.k ok
 have ht : takerIn c.K C (nmS a) = some none := by unfold takerIn; rw [CO.flds a hf]; rfl
 refine set_plain X I CO.sa (osa_open (s := { s with toks := s.toks + 1 }) X I CO.over ht fun b => ?_)
 have D : s.heap.get? (δ r) = some (dictOf es k) := I.dict
 have hfr : (Obj.putName (nmS a) (PyData.keyHash c.w.params (nmS a)) (.str (nmS a) (s.toks + 1)) val (dictOf es k)).isFreed = false := by rw [putName_dict]; rfl
 have D' := Heap.get?_update_self (Obj.putName (nmS a) (PyData.keyHash c.w.params (nmS a)) (.str (nmS a) (s.toks + 1)) val) D hfr
 rw [putName_dict] at D'
 refine wpAny_bind (wpAny_pure (wpAny_bind (wpAny_bind (wpAny_loadPart I.at_ (wpAny_bind (Looks.here (s := { s with toks := s.toks + 1 }) (looks_clsIn X hcd) ?_))))))
 rw [hd]
 refine wpAny_pure (a := some (δ r)) (wpAny_bind (wpAny_pure (wpAny_bind ?_)))
 unfold nsSet
 refine wpAny_bind (wpAny_bind (wpAny_askSetting (wpAny_pure (wpAny_bind (wpAny_mkText (wpAny_bind (wpAny_loadPart D ?_)))))))
 dsimp only
 have cc : (!es.toArray.any (·.key.isStr (nmS a)) && es.toArray.any (·.refKey)) = false := by
  rw [← Array.any_toList, ← Array.any_toList, F.norefs, Bool.and_false]
 rw [aRefKeyMayBeTheName_at, cc]
 refine wpAny_updatePart D ?_
 have hz : (putL (nmS a) (PyData.keyHash c.w.params (nmS a)) (.str (nmS a) (s.toks + 1)) val es).toArray.size ≤ sizeLine + 1 := by
  have h1 := putL_len (nmS a) (PyData.keyHash c.w.params (nmS a)) (.str (nmS a) (s.toks + 1)) val es
  rw [List.size_toArray, sizeLine_eq]
  have := F.len
  omega
 refine wpAny_bind (wpAny_lookBehind D' (pastItsLine_dict hz) ?_)
 have i1 : (s.heap.update (δ r) (Obj.putName (nmS a) (PyData.keyHash c.w.params (nmS a)) (.str (nmS a) (s.toks + 1)) val)).get? (ρ r) = some (instObj C (δ r)) := by
  refine (Heap.get?_update_other _ _ ?_).trans hor.1
  intro z
  have := hor.1
  rw [← z] at this
  have q : some (instObj C (δ r)) = some (dictOf es k) := this.symm.trans D
  cases q
 obtain ⟨r1, g1⟩ := hr.turn (X := No) (h' := s.heap.update (δ r) (Obj.putName (nmS a) (PyData.keyHash c.w.params (nmS a)) (.str (nmS a) (s.toks + 1)) val)) hro hlt (ao := .inst C (pt fs a v)) (fun j => get_hput T _ r j hlt) (fun b o n1 n2 q => (Heap.get?_update_other _ _ (Ne.symm n2)).trans q) ⟨_, i1⟩ ⟨_, D'⟩ ⟨i1, _, _, D', F.put vr⟩
 exact wpAny_pure (nx _ _ g1 r1)
end

section
variable {c : Cx} {d : Nat} {loc loc' : Loc} {T T1 T2 : Hp} {v : AV} {e o : PE} {f : Fl} {st : PS} {b b2 : PSs}
theorem swaps_no {e : PySem.Expr} {t : Option PySem.Expr} {l : Nat} {env : Env} (h : notComp e = true) : swapsWith e t l env = pure false := by
 cases e <;> first | rfl | cases h
theorem swaps_cell {e : PySem.Expr} {y : Str} {np : Pos} {l : Nat} {env : Env} (h : env.kindOf y = some .cell) : swapsWith e (some (.Name y np)) l env = pure false := by
 cases e <;> first | rfl | (show (pure (_ && _ && _ && _) : Sem Bool) = _; rw [h, show ((some NameKind.cell == some NameKind.local) : Bool) = false from rfl, Bool.and_false, Bool.false_and, Bool.false_and])
theorem R_expr (e1 : Ev c e d loc T v T1) : St c (.expr e) d loc T (.nxt loc) T1 := by
 rintro _ env A s ρ δ Q E ⟨e', p, rfl, me, nc⟩ a ct
 exact wpAny_Expr_any (e1 _ env A s ρ δ _ E me a fun ρ1 δ1 h' t1 va g1 hr1 vr1 => ct ρ1 δ1 h' t1 g1.any hr1 (a.fr.go g1)) (by unfold interactive; rw [a.fr.kind]; rfl) (swaps_no nc)
theorem R_ret0 : St c .ret0 d loc T (.ret .none) T := by
 rintro _ env A s ρ δ Q E ⟨p, rfl⟩ a ct
 exact wpAny_Return_none (ct ρ δ s.heap s.toks .none Go.refl a.hr rfl)
theorem R_asg {x : Nat} (e1 : Ev c e d loc T v T1) : St c (.asg x e) d loc T (.nxt (pt loc x v)) T1 := by
 rintro _ env A s ρ δ Q E ⟨np, e', p, rfl, me, nc, mk⟩ a ct
 exact wpAny_Assign_Name (e1 _ env A s ρ δ _ E me a fun ρ1 δ1 h' t1 va g1 hr1 vr1 => store_snd (a.fr.go g1) hr1 vr1 mk fun h'' t'' g r f => ct ρ1 δ1 h'' t'' (g1.any.trans g) r f) (nc.elim swaps_no fun h => swaps_cell h)
theorem R_if {t : PE} (w : Bool) (e1 : Tr c t d loc T w T1) (e2 : Ex c (cond w b b2) d loc T1 f T2) : St c (.ite t b b2) d loc T f T2 := by
 rintro _ env A s ρ δ Q E ⟨t', b', b2', p, rfl, me, m1, m2⟩ a ct
 refine wpAny_If (e1 _ env A s ρ δ _ E me a fun ρ1 δ1 h' t1 g1 hr1 => ?_)
 cases w with
 | true => exact e2 _ env A _ ρ1 δ1 Q E m1 (a.go g1 hr1) (Kf.go (t' := t1) ct g1.any)
 | false => exact e2 _ env A _ ρ1 δ1 Q E m2 (a.go g1 hr1) (Kf.go (t' := t1) ct g1.any)
theorem R_asgA (ok : Ok c) {a r C : Nat} {ci : CI} {fs : List (Nat × AV)} (e1 : Ev c e d loc T v T1) (e2 : Ev c o d loc T1 (.ref r) T2) (ho : T2.get r = some (.inst C fs)) (hc : lk c.G.cls C = some ci) (hf : ci.flds.contains a = true) (hl : fs.length < 500) (hro : 1 ≤ r) : St c (.asgA o a e) d loc T (.nxt loc) (hput T2 r (.inst C (pt fs a v))) := by
 rintro _ env A s ρ δ Q E ⟨o', ap, e', p, rfl, mo, me⟩ at' ct
 refine wpAny_Assign_stores (e1 _ env A s ρ δ _ E me at' fun ρ1 δ1 h' t1 va g1 hr1 vr1 => ?_) (by cases e' <;> rfl) (by cases e' <;> rfl)
 show wpAny _ _ (holding [va] (eval o' env) >>= fun ov => standAt ap.atName >>= fun _ => holding [va, ov] (setAttr ov (nmS a) va) >>= fun _ => release [va, ov] []) _ _ _
 refine wpAny_bind (wpAny_holding (e2 _ env A (Sh s h' t1) ρ1 δ1 _ E mo (at'.go g1 hr1) fun ρ2 δ2 h'' t2 vo g2 hr2 vr2 => wpAny_bind (wpAny_standAt (wpAny_bind (wpAny_holding ?_)))))
 rw [vr2.2]
 exact setattr_leaf ok (s := Sh s h'' t2) hr2 ho hc hf hl hro (g2.vr vr1) fun h3 t3 g3 r3 => wpAny_release (ct ρ2 δ2 h3 t3 ((g1.trans (g2.trans g3)).any) r3 (((at'.fr.go g1).go g2).go g3))
theorem X_nil : Ex c .nil d loc T (.nxt loc) T := by
 rintro _ env A s ρ δ Q E rfl a ct
 exact wpAny_execs_nil (ct ρ δ s.heap s.toks Go.refl a.hr a.fr)
theorem X_cons (e1 : St c st d loc T (.nxt loc') T1) (e2 : Ex c b d loc' T1 f T2) : Ex c (.cons st b) d loc T f T2 := by
 rintro _ env A s ρ δ Q E ⟨x, l, rfl, m1, m2⟩ a ct
 exact wpAny_execs_cons (e1 _ env A s ρ δ _ E m1 a fun ρ1 δ1 h' t1 g r fr => e2 _ env A (Sh s h' t1) ρ1 δ1 Q E m2 ⟨fr, r, a.ro, a.fgo g⟩ (Kf.go ct g))
theorem X_ret (e1 : St c st d loc T (.ret v) T1) : Ex c (.cons st b) d loc T (.ret v) T1 := by
 rintro _ env A s ρ δ Q E ⟨x, l, rfl, m1, m2⟩ a ct
 exact wpAny_execs_cons (e1 _ env A s ρ δ _ E m1 a ct)
end
end Mine
end
section
open PySem PySem.W PyProof.Rows
namespace Mine
noncomputable def BR (n : Nat) (ρ : Nat → Addr) : Loc → List (Str × Value) → Prop
 | [], [] => True
 | (x, a) :: l, (y, v) :: r => y = nmS x ∧ VR n ρ a v ∧ BR n ρ l r
 | _, _ => False
section
variable {n : Nat} {ρ : Nat → Addr}
theorem bindL_other {kd : Kd} {y : Str} (r : List (Str × Value)) (m : Str → Option Value) (h : ∀ p ∈ r, p.1 ≠ y) : bindL kd r m y = m y := by
 induction r generalizing m with
 | nil => rfl
 | cons p r ih =>
  unfold bindL
  rw [ih _ fun q hq => h q (.tail _ hq)]
  by_cases k : kd p.1 = some .local
  ·rw [if_pos k]; exact if_neg (Ne.symm (h p (.head _)))
  ·rw [if_neg k]
theorem bindC_other {kd : Kd} {y : Str} (r : List (Str × Value)) (m : Str → Option Value) (h : ∀ p ∈ r, p.1 ≠ y) : bindC kd r m y = m y := by
 induction r generalizing m with
 | nil => rfl
 | cons p r ih =>
  unfold bindC
  rw [ih _ fun q hq => h q (.tail _ hq)]
  by_cases k : kd p.1 = some .local
  ·rw [if_pos k]
  ·rw [if_neg k]; exact if_neg (Ne.symm (h p (.head _)))
theorem BR.names {l : Loc} {r : List (Str × Value)} (h : BR n ρ l r) : ∀ p ∈ r, ∃ x ∈ l.map (·.1), p.1 = nmS x := by
 induction l generalizing r with
 | nil => cases r with
  | nil => exact fun _ hp => nomatch hp
  | cons => exact h.elim
 | cons q l ih => cases r with
  | nil => exact h.elim
  | cons w r =>
   intro p hp
   rcases List.mem_cons.mp hp with rfl | hp
   ·exact ⟨q.1, .head _, h.1⟩
   ·obtain ⟨z, hz, e⟩ := ih h.2.2 p hp
    exact ⟨z, .tail _ hz, e⟩
theorem BR.look {kd : Kd} {l : Loc} {r : List (Str × Value)} (h : BR n ρ l r) (nd : (l.map (·.1)).Nodup) (x : Nat) (v : AV) (e : lk l x = some v) :
  (kd (nmS x) = some .local → ∀ m, ∃ val, bindL kd r m (nmS x) = some val ∧ VR n ρ v val) ∧ (kd (nmS x) ≠ some .local → ∀ m, ∃ val, bindC kd r m (nmS x) = some val ∧ VR n ρ v val) := by
 induction l generalizing r with
 | nil => cases e
 | cons q l ih => cases r with
  | nil => exact h.elim
  | cons w r =>
   obtain ⟨y, u⟩ := w
   obtain ⟨k, a⟩ := q
   obtain ⟨h1, h2, h3⟩ := h
   rw [List.map_cons, List.nodup_cons] at nd
   rw [lk_cons] at e
   by_cases z : k = x
   ·rw [if_pos z] at e
    cases e
    subst z; subst h1
    have ne : ∀ p ∈ r, p.1 ≠ nmS k := fun p hp z => by
     obtain ⟨u, hu, e⟩ := h3.names p hp
     exact nd.1 (nmS_inj (z.symm.trans e) ▸ hu)
    constructor
    ·intro k' m
     unfold bindL
     rw [bindL_other r _ ne, if_pos k', if_pos rfl]
     exact ⟨u, rfl, h2⟩
    ·intro k' m
     unfold bindC
     rw [bindC_other r _ ne, if_neg k', if_pos rfl]
     exact ⟨u, rfl, h2⟩
   ·rw [if_neg z] at e
    have ih := ih h3 nd.2 e
    exact ⟨fun k m => by unfold bindL; exact ih.1 k _, fun k m => by unfold bindC; exact ih.2 k _⟩
end

noncomputable def binds : List Nat → List AV → List AV → Nat → Option Loc
 | [], [], _, _ => some []
 | x :: xs, a :: as, d, k => (binds xs as d (k - 1)).map fun l => (x, a) :: l
 | x :: xs, [], v :: d, 0 => (binds xs [] d 0).map fun l => (x, v) :: l
 | _, _, _, _ => none
theorem binds_BR {n : Nat} {ρ : Nat → Addr} {ps : List Nat} {as ds : List AV} {vs dv : List Value} {k : Nat} {l : Loc} (h1 : VRs n ρ as vs) (h2 : VRs n ρ ds dv) (e : binds ps as ds k = some l) : ∃ r, bindV ps vs dv k = some r ∧ BR n ρ l r ∧ l.map (·.1) = ps := by
 induction ps generalizing as ds vs dv k l with
 | nil => cases as with
  | cons => cases e
  | nil => cases vs with
   | cons => exact h1.elim
   | nil => cases e; exact ⟨[], rfl, trivial, rfl⟩
 | cons x xs ih => cases as with
  | cons a as => cases vs with
   | nil => exact h1.elim
   | cons v vs =>
    have e : (binds xs as ds (k - 1)).map (fun l => (x, a) :: l) = some l := e
    obtain ⟨l', q, rfl⟩ := Option.map_eq_some_iff.mp e
    obtain ⟨r, h4, h5, h6⟩ := ih h1.2 h2 q
    refine ⟨(nmS x, v) :: r, ?_, ⟨rfl, h1.1, h5⟩, by rw [List.map_cons, h6]⟩
    show (match bindV xs vs dv (k - 1) with | some l => some ((nmS x, v) :: l) | none => none) = _
    rw [h4]
  | nil => cases vs with
   | cons => exact h1.elim
   | nil => cases ds with
    | nil => cases k <;> cases e
    | cons d ds => cases dv with
     | nil => exact h2.elim
     | cons v dv => cases k with
      | succ => cases e
      | zero =>
       have e : (binds xs [] ds 0).map (fun l => (x, d) :: l) = some l := e
       obtain ⟨l', q, rfl⟩ := Option.map_eq_some_iff.mp e
       obtain ⟨r, h4, h5, h6⟩ := ih (as := []) (vs := []) trivial h2.2 q
       refine ⟨(nmS x, v) :: r, ?_, ⟨rfl, h2.1, h5⟩, by rw [List.map_cons, h6]⟩
       show (match bindV xs [] dv 0 with | some l => some ((nmS x, v) :: l) | none => none) = _
       rw [h4]
theorem VRs.drop {n : Nat} {ρ : Nat → Addr} {a : List AV} {v : List Value} (k : Nat) (h : VRs n ρ a v) : VRs n ρ (a.drop k) (v.drop k) := by
 induction k generalizing a v with
 | zero => exact h
 | succ k ih => cases a with
  | nil => cases v with
   | nil => trivial
   | cons => exact h.elim
  | cons x a => cases v with
   | nil => exact h.elim
   | cons y v => exact ih h.2
section
variable {c : Cx} {ρ δ : Nat → Addr} {n : Nat} {T : Hp} {s s' : Shared}
theorem HR.offNew (hr : HR c ρ δ T n s.heap) {a : Addr} (h : s.heap.get? a = none) : Off c ρ δ n a := fun i h1 h2 =>
 ⟨dead_ne (hr.liv i h2).1 h, dead_ne (hr.liv i h2).2 h⟩
theorem HR.dead (hr : HR c ρ δ T n s.heap) {a : Addr} (h : s.heap.get? a = none) : c.hb.get? a = none := by
 cases q : c.hb.get? a with
 | none => rfl
 | some o => have := hr.base a o q; rw [h] at this; cases this
theorem pw_inj : ∀ {l : List (Str × Addr)}, (l.Pairwise fun x y => x.2 ≠ y.2) → ∀ {x y : Str} {a : Addr}, l.lookup x = some a → l.lookup y = some a → x = y := by
 intro l h x y a hx hy
 exact name_of_addr h (mem_of_lookup hx) (mem_of_lookup hy)
theorem FR.enter {fd : FuncData} {b : List (Str × Value)} {l : Loc} {L : Addr} {code : Value} {f : Option Addr} {q : Str} (hr : HR c ρ δ T n s.heap) (br : BR n ρ l b) (nd : (l.map (·.1)).Nodup)
  (hk : fd.scope.kind = .function) (hg : fd.globals = mainGlobals) (hbu : fd.builtins = builtinsNs) (hL : L = s.heap.objs.size)
  (x : InCallC s L (bindL (fun y => fd.scope.names.lookup y) b fun _ => none) (cellsFrom (L + 1) fd.scope.names []) (bindC (fun y => fd.scope.names.lookup y) b fun _ => none) s')
  (hc : ∀ y ∈ l.map (·.1), fd.scope.names.lookup (nmS y) = some .local ∨ fd.scope.names.lookup (nmS y) = some .cell) :
  FR c ρ δ n l (newEnv fd.scope L fd.globals (cellsFrom (L + 1) fd.scope.names []) q f code none fd.builtins) s'.heap := by
 obtain ⟨⟨hsame, hns, hkeep, hfresh⟩, hcell, hap, hab⟩ := x
 have above : ∀ y a, (cellsFrom (L + 1) fd.scope.names []).lookup y = some a → L < a := fun y a e => hab y a (mem_of_lookup e)
 have inl : ∀ {y v}, lk l y = some v → y ∈ l.map (·.1) := by
  intro y v
  clear br nd hc hcell hns
  induction l with
  | nil => intro e; cases e
  | cons p r ih =>
   intro e
   obtain ⟨k, w⟩ := p
   rw [lk_cons] at e
   rw [List.map_cons]
   by_cases z : k = y
   ·subst z; exact .head _
   ·rw [if_neg z] at e; exact .tail _ (ih e)
 have dd : ∀ a, L ≤ a → s.heap.get? a = none := fun a q => dead_end _ (by rw [← hL]; exact q)
 refine ⟨hk, hg, hbu, hr.offNew (dd L (Nat.le_refl _)), ?_, ?_, ?_, fun y z a => pw_inj hap, ⟨_, hns, ?_⟩, ?_, ?_⟩
 ·exact hr.dead (dd L (Nat.le_refl _))
 ·intro y a e
  have := above y a e
  exact ⟨hr.offNew (dd a (Nat.le_of_lt this)), Nat.ne_of_gt this, live_cell (hcell y a e)⟩
 ·intro y a _ e
  have := above y a e
  exact hr.dead (dd a (Nat.le_of_lt this))
 ·intro y v e k
  exact (br.look nd y v e).1 k _
 ·intro y v e k
  have kl : fd.scope.names.lookup (nmS y) ≠ some .local := fun z => by rcases k with k | k <;> (rw [show (newEnv fd.scope L fd.globals (cellsFrom (L + 1) fd.scope.names []) q f code none fd.builtins).kindOf (nmS y) = fd.scope.names.lookup (nmS y) from rfl, z] at k; cases k)
  obtain ⟨val, h1, h2⟩ := (br.look (kd := fun y => fd.scope.names.lookup y) nd y v e).2 kl fun _ => none
  have kc : fd.scope.names.lookup (nmS y) = some .cell := (hc y (inl e)).resolve_left kl
  have := cellsFrom_some (x := nmS y) fd.scope.names (L + 1) [] (.inl kc)
  obtain ⟨a, ha⟩ := Option.isSome_iff_exists.mp this
  exact ⟨a, val, ha, by have := hcell _ _ ha; rwa [h1] at this, h2⟩
 ·intro y k
  have := cellsFrom_some (x := nmS y) fd.scope.names (L + 1) [] (.inl k)
  obtain ⟨a, ha⟩ := Option.isSome_iff_exists.mp this
  exact ⟨a, _, ha, hcell _ _ ha⟩
end
theorem Fm.enter {c : Cx} {ρ δ : Nat → Addr} {n : Nat} {T : Hp} {s : Shared} {hh : Heap} {A : Around} {l : List Env} {env : Env} {m : Str → Option Value} (f : Fm c ρ δ n A s.heap l) (hr : HR c ρ δ T n s.heap) (hk : env.scope.kind = .function) (keep : ∀ b o, s.heap.get? b = some o → hh.get? b = some o) (hn : hh.Ns s.heap.objs.size m) (hf : env.frame = some s.heap.objs.size) : Fm c ρ δ n (A.deeper env) hh (env :: l) := by
 have g : Go c No ρ δ n s.heap ρ δ n hh := Go.of_keeps keep
 have dd : s.heap.get? s.heap.objs.size = none := dead_end _ (Nat.le_refl _)
 refine ⟨Around.frames_deeper f.fr, fun e he => ?_⟩
 rcases List.mem_cons.mp he with rfl | he
 ·exact ⟨by rw [hk]; decide, _, hf, hr.dead dd, hr.offNew dd, dl_ns hn⟩
 ·exact (f.go g).ok e he
noncomputable def Fl.out : Fl → AV
 | .nxt _ => .none
 | .ret v => v
section
variable {c : Cx} {d : Nat} {loc : Loc} {T T1 : Hp} {args : List AV} {f : Fl}
theorem fn_in (ok : Ok c) {a : Nat} {fi : FI} {l : Loc} (hfi : lk c.G.fns a = some fi) (hl : binds fi.params args (fi.dfl.drop (args.length - (fi.params.length - fi.dfl.length))) (fi.params.length - fi.dfl.length) = some l) {A : Around} {s : Shared} {ρ δ : Nat → Addr} {R : Result → Shared → Prop} {vals : List Value} (va : VRs T.n ρ args vals) (hr : HR c ρ δ T T.n s.heap) (ro : Room (d + 1) A) (fm : ∃ l, Fm c ρ δ T.n A s.heap l)
  (k : ∀ body env hh tk, MSs fi.body env.kindOf body → At c d l T env (A.deeper env) (Sh s hh tk) ρ δ → (∀ b o, s.heap.get? b = some o → hh.get? b = some o) → (∀ z, Live s.heap z → ¬ Own env z) → (∃ L, env.frame = some L) →
   wpAny (model c.prog c.w) (A.deeper env) (execs body env) (fun f s' => R (.ok (.ret (match f with | .ret v => v | _ => .none))) s') (fun e s' => wpAny (model c.prog c.w) (A.deeper env) (leaving env e) (fun _ s'' => R (.error e) s'') (fun e' s'' => R (.error e') s'') s') (Sh s hh tk)) :
  codeAny (model c.prog c.w) A (.call (.ref a) ⟨vals, []⟩) R s := by
 obtain ⟨fl, fm⟩ := fm
 obtain ⟨ob, fd, body, dv, h1, h2, h3, h4, h5, h6, h7, h8, h9, h10, h11, h12, h13, h14, h15⟩ := (ok.fns _ _ hfi).ex
 have X := hr.k ok
 have hroom : A.depth < recursionLimit := by have := ro.1; unfold recursionLimit; omega
 have vd : VRs T.n ρ (fi.dfl.drop (args.length - (fi.params.length - fi.dfl.length))) (dv.drop (vals.length - (fi.params.length - fi.dfl.length))) := by
  rw [va.len]
  exact VRs.drop _ (h12.up (Nat.zero_le _) fun i q => absurd q (Nat.not_lt_zero i))
 obtain ⟨b, hb, hbr, hnm⟩ := binds_BR va vd hl
 have BT : BindsTo s fd ⟨vals, []⟩ b := kp_binds X (h15 vals b hb)
 refine codeAny_call_function hroom (X _ _ h1) h2 h7 h8 h3 (codeRec_of X h4) (BT _ _ _ _ ?_)
 rw [h5]
 have hkind : ∀ x ∈ b, fd.scope.names.lookup x.1 = some .local ∨ (fd.scope.names.lookup x.1 = some .cell ∧ ((cellsFrom (s.heap.objs.size + 1) fd.scope.names []).lookup x.1).isSome = true) := by
  intro x hx
  obtain ⟨y, hy, e⟩ := hbr.names x hx
  rw [hnm] at hy
  rw [e]
  exact (h14 y hy).imp id fun k => ⟨k, cellsFrom_some _ _ _ (.inl k)⟩
 refine wpAny_newFunctionEnv_cells h6 hkind fun env he s' x => ?_
 subst he
 obtain ⟨hh, tk, hs'⟩ := x.toInCall.same
 have keep := x.toInCall.keep
 have fr := FR.enter (q := fd.qualname ++ ".<locals>.") (f := some a) (code := fd.code) hr hbr (by rw [hnm]; exact h13) h6 h9 h10 rfl x (by rw [hnm]; exact h14)
 subst hs'
 refine ⟨(ok.nolim.keeps hr.base).keeps keep, codeAny_func ?_⟩
 have off : ∀ z, Live s.heap z → ¬ (z = s.heap.objs.size ∨ ∃ y, (cellsFrom (s.heap.objs.size + 1) fd.scope.names []).lookup y = some z) := by
  intro z ⟨oz, ez⟩ q
  have hz := Heap.lt_size ez
  rcases q with q | ⟨y, q⟩
  ·exact absurd hz (by rw [q]; exact Nat.lt_irrefl _)
  ·have := x.above y z (mem_of_lookup q)
   exact absurd (Nat.lt_trans this hz) (Nat.lt_irrefl _)
 refine k body _ hh _ h11 ⟨fr, hr.of_keeps keep, ⟨?_, ?_, ro.2.2⟩, ?_⟩ keep off ⟨_, rfl⟩
 ·have := ro.1; rw [depth_deeper]; omega
 ·have := ro.2.1; rw [units_deeper]; omega
 ·refine ⟨newEnv fd.scope s.heap.objs.size fd.globals (cellsFrom (s.heap.objs.size + 1) fd.scope.names []) (fd.qualname ++ ".<locals>.") (some a) fd.code none fd.builtins, fl, fm.enter hr ?_ keep x.toInCall.ns ?_, rfl⟩
  ·exact h6
  ·rfl
theorem C_fun (ok : Ok c) {a : Nat} {fi : FI} {l : Loc} (hfi : lk c.G.fns a = some fi) (hl : binds fi.params args (fi.dfl.drop (args.length - (fi.params.length - fi.dfl.length))) (fi.params.length - fi.dfl.length) = some l) (e : Ex c fi.body d l T f T1) : Ca c a args (d + 1) T f.out T1 := by
 intro A s ρ δ R vals va hr ro fm ct
 refine fn_in ok hfi hl va hr ro fm fun body env hh tk ms at' keep off _ => e body env _ (Sh s hh tk) ρ δ _ _ ms at' ?_
 have g0 : ∀ {X : Addr → Prop}, Go c X ρ δ T.n s.heap ρ δ T.n hh := Go.of_keeps keep
 cases f with
 | nxt l' => exact fun ρ' δ' h'' t' g r _ => ct ρ' δ' h'' t' .none ((g0.trans g).weak off) r rfl
 | ret v => exact fun ρ' δ' h'' t' val g r vr => ct ρ' δ' h'' t' val ((g0.trans g).weak off) r vr
end
end Mine
end
section
open PySem PySem.W PyProof.Rows
namespace Mine
noncomputable def Bc (c : Cx) (f : AV) (args : List AV) (d : Nat) (T : Hp) (v : AV) (T' : Hp) : Prop :=
 ∀ (A : Around) (s : Shared) (ρ δ : Nat → Addr) (fv : Value) (vals : List Value) (Q E : Value → Shared → Prop), VR T.n ρ f fv → VRs T.n ρ args vals → HR c ρ δ T T.n s.heap → Room d A → Kv c s ρ δ T T' v Q → wpAny (model c.prog c.w) A (call fv vals) Q E s
noncomputable def Bg (c : Cx) (o : AV) (m : Nat) (id : String) (T : Hp) : Prop :=
 ∀ (A : Around) (s : Shared) (ρ δ : Nat → Addr) (v : Value) (pl : Sem Bool) (Q : Value × List Value → Shared → Prop) (E : Value → Shared → Prop), VR T.n ρ o v → HR c ρ δ T T.n s.heap → Q (.builtin id, [v]) s → wpAny (model c.prog c.w) A (getMethod v (nmS m) pl) Q E s
noncomputable def Bm (c : Cx) (id : String) (o : AV) (args : List AV) (d : Nat) (T : Hp) (v : AV) (T' : Hp) : Prop :=
 ∀ (A : Around) (s : Shared) (ρ δ : Nat → Addr) (ov : Value) (vals : List Value) (Q E : Value → Shared → Prop), VR T.n ρ o ov → VRs T.n ρ args vals → HR c ρ δ T T.n s.heap → Room d A → Kv c s ρ δ T T' v Q → wpAny (model c.prog c.w) A (call (.builtin id) (ov :: vals)) Q E s
section
variable {M : Model} {prog : Program} {w : World} {A : Around} {s : Shared} {env : Env} {E : Value → Shared → Prop}
theorem MEs.plain {kd : Kd} {pos : Pos} {l : PEs} {xs : List PySem.Expr} (ms : MEs l kd xs) : (backTo pos (starEach xs env)).any (·.1) = false ∧ xs.length = lenE l := by
 induction xs generalizing l with
 | nil => cases l with
  | nil => exact ⟨rfl, rfl⟩
  | cons => obtain ⟨_, _, h, _⟩ := ms; cases h
 | cons x xs ih => cases l with
  | nil => cases ms
  | cons e l =>
   obtain ⟨_, _, h, me, ms, ns⟩ := ms
   cases h
   rw [star_no ns]
   exact ⟨(ih ms).1, congrArg (· + 1) (ih ms).2⟩
theorem wp_args {kd : Kd} {pos : Pos} {f : Value} {l : PEs} {xs : List PySem.Expr} {Q : Args → Shared → Prop} (ms : MEs l kd xs) (h : wpAny M A (spliced (backTo pos (starEach xs env))) (fun vs s₁ => Q ⟨vs, []⟩ s₁) E s) :
  wpAny M A (evalArgs f true (backTo pos (starEach xs env)) []) Q E s := by
 cases xs with
 | nil =>
  unfold evalArgs
  show wpAny M A (spliced [] >>= _) Q E s
  refine wpAny_bind (wpAny_mono h (fun vs s' h' => ?_) fun _ _ x => x)
  refine wpAny_holding ?_
  exact wpAny_bind (wpAny_pure (wpAny_bind (wpAny_pure (wpAny_pure h'))))
 | cons x xs => cases l with
  | nil => cases ms
  | cons e l =>
   obtain ⟨_, _, q, me, ms, ns⟩ := ms
   cases q
   rw [star_no ns] at h ⊢
   exact Calls.evalArgs_plain h
theorem wp_meth {kd : Kd} {o : PySem.Expr} {name : Str} {apos pos : Pos} {l : PEs} {xs : List PySem.Expr} {Q : Value → Shared → Prop} (hn : notSuper o = true) (ms : MEs l kd xs) (hl : (apos.endLine == pos.line) = true) (hlen : lenE l < 29)
  (h : wpAny (model prog w) A (eval o env) (fun ov s₁ => ∀ pl, wpAny (model prog w) A (getMethod ov name pl) (fun fx s₂ => wpAny (model prog w) A (callWith pos fx.1 fx.2 (backTo pos (starEach xs env)) []) Q E s₂) E s₁) E s) :
  wpAny (model prog w) A (eval (.Call (.Attribute o name apos) xs [] pos) env) Q E s := by
 show wpAny _ _ (attributeBase o name env (eval o env) >>= fun ov => standAt apos.atName >>= fun _ => methodCall o name apos pos env ov (xs.length + 0) (backTo pos (starEach xs env)) []) _ _ _
 refine wpAny_bind (wp_base hn (wpAny_mono h (fun ov s₁ h₁ => wpAny_bind (wpAny_standAt ?_)) fun _ _ x => x))
 have P := MEs.plain (env := env) (pos := pos) ms
 have hf : methodCallForm (xs.length + 0) (backTo pos (starEach xs env)) [] = true := by
  unfold methodCallForm
  rw [Bool.and_eq_true, Bool.and_eq_true]
  refine ⟨⟨?_, rfl⟩, ?_⟩
  ·rw [List.all_eq_true]
   intro x hx
   have := List.any_eq_false.mp P.1 x hx
   simpa using this
  ·rw [P.2]; simp; omega
 unfold methodCall calleeOf methodCallPos
 rw [hf, if_pos rfl]
 refine wpAny_bind (wpAny_holding (wpAny_mono (h₁ _) (fun fx s₂ h₂ => ?_) fun _ _ x => x))
 rw [hl]
 exact wpAny_bind (wpAny_pure h₂)
end
section
variable {c : Cx} {d : Nat} {loc : Loc} {T T1 T2 T3 : Hp} {v : AV} {vs : List AV} {o : PE} {l : PEs}
theorem R_callF (ok : Ok c) {x a : Nat} {fi : FI} (hx : lk c.G.glb x = some (.obj a)) (hf : lk c.G.fns a = some fi) (e1 : Evs c l d loc T vs T1) (e2 : Ca c a vs d T1 v T2) : Ev c (.call (.glb x) l) d loc T v T2 := by
 rintro _ env A s ρ δ Q E ⟨f', l', p, rfl, ⟨y, np, rfl⟩, mf, ms⟩ a' ct
 have P := MEs.plain (env := env) (pos := p) ms
 refine wpAny_Call_NameR (R_glb ok hx _ env A s ρ δ _ E mf a' fun ρ1 δ1 h' t1 fv g1 hr1 vr1 => ?_)
 rw [vr1]
 refine callWith_of (by rw [P.1]; rfl) (keeps_K (ok.keepF a fi hf)) (wp_args ms (e1 _ env A (Sh s h' t1) ρ1 δ1 _ E p ms (a'.go g1 hr1) fun ρ2 δ2 h2 t2 vals g2 hr2 vr2 => ⟨hr2.k ok, wpAny_call ?_⟩))
 exact e2 A (Sh s h2 t2) ρ2 δ2 _ vals vr2 hr2 a'.ro (a'.fl (g1.trans g2)) fun ρ3 δ3 h3 t3 val g3 hr3 vr3 => ct ρ3 δ3 h3 t3 val (g1.trans (g2.trans g3)) hr3 vr3
theorem R_callB (ok : Ok c) {x : Nat} {f : AV} (hx : lk c.G.glb x = some f) (hf : (∃ b, f = .bi b) ∨ ∃ t, f = .typ t) (e1 : Evs c l d loc T vs T1) (e2 : Bc c f vs d T1 v T2) : Ev c (.call (.glb x) l) d loc T v T2 := by
 rintro _ env A s ρ δ Q E ⟨f', l', p, rfl, ⟨y, np, rfl⟩, mf, ms⟩ a' ct
 have P := MEs.plain (env := env) (pos := p) ms
 refine wpAny_Call_NameR (R_glb ok hx _ env A s ρ δ _ E mf a' fun ρ1 δ1 h' t1 fv g1 hr1 vr1 => ?_)
 have args : ∀ {f' : Value}, wpAny (model c.prog c.w) A (evalArgs f' true (backTo p (starEach l' env)) []) (fun as s₁ => wpAny (model c.prog c.w) A (call fv ([] ++ as.pos) as.kw) Q E s₁) E (Sh s h' t1) := fun {f'} =>
  wp_args ms (e1 _ env A (Sh s h' t1) ρ1 δ1 _ E p ms (a'.go g1 hr1) fun ρ2 δ2 h2 t2 vals g2 hr2 vr2 => e2 A (Sh s h2 t2) ρ2 δ2 fv vals Q E (g2.vr vr1) vr2 hr2 a'.ro fun ρ3 δ3 h3 t3 val g3 hr3 vr3 => ct ρ3 δ3 h3 t3 val (g1.trans (g2.trans g3)) hr3 vr3)
 rcases hf with ⟨b, rfl⟩ | ⟨t, rfl⟩
 ·obtain rfl := vr1
  exact Calls.callWith_builtin P.1 args
 ·obtain rfl := vr1
  exact PySem.callWith_type P.1 args
theorem R_new (ok : Ok c) {x a fi : Nat} {ci : CI} (hx : lk c.G.glb x = some (.obj a)) (hc : lk c.G.cls a = some ci) (hi : lk ci.meths 6944679725401530464 = some fi) (e1 : Evs c l (d + 1) loc T vs T1) (e2 : Ca c fi (.ref T1.n :: vs) d (hnew T1 (.inst a [])) .none T2) : Ev c (.call (.glb x) l) (d + 1) loc T (.ref T1.n) T2 := by
 rintro _ env A s ρ δ Q E ⟨f', l', p, rfl, ⟨y, np, rfl⟩, mf, ms⟩ a' ct
 have P := MEs.plain (env := env) (pos := p) ms
 have CO := ok.cls a ci hc
 obtain ⟨m1, m2, m3, m4⟩ := CO.meths _ _ hi
 refine wpAny_Call_NameR (R_glb ok hx _ env A s ρ δ _ E mf a' fun ρ1 δ1 h' t1 fv g1 hr1 vr1 => ?_)
 rw [vr1]
 refine callWith_of (by rw [P.1]; rfl) (keeps_K CO.keep) (wp_args ms (e1 _ env A (Sh s h' t1) ρ1 δ1 _ E p ms (a'.go g1 hr1) fun ρ2 δ2 hh t2 vals g2 hr2 va => ⟨hr2.k ok, wpAny_call ?_⟩))
 have X := hr2.k ok
 have m1' : findIn c.K (.ref a) "__init__" = some (some (.ref fi)) := by
  rw [← m1]; exact congrArg _ (by decide +kernel)
 refine make_core (makes_of X CO.makes) (looks_findIn X m1') (fun self => bind_fn X self m2) (.inl rfl) ?_
 have k1 : ∀ b ob, hh.get? b = some ob → ((hh.push emptyDict).push (instObj a hh.objs.size)).get? b = some ob := fun b ob q => Heap.get?_push_of_some _ (Heap.get?_push_of_some _ q)
 have i1 : ((hh.push emptyDict).push (instObj a hh.objs.size)).get? (hh.objs.size + 1) = some (instObj a hh.objs.size) := by
  have := Heap.get?_push_size (hh.push emptyDict) (o := instObj a hh.objs.size) rfl
  rwa [Heap.size_push] at this
 have i2 : ((hh.push emptyDict).push (instObj a hh.objs.size)).get? hh.objs.size = some (dictOf [] 0) := Heap.get?_push_of_some _ (Heap.get?_push_size _ rfl)
 obtain ⟨r1, gg⟩ := hr2.grow (X := No) (ao := .inst a []) (a := hh.objs.size + 1) (d := hh.objs.size) (get_hnew T1 _) (dead_end _ (Nat.le_succ _)) (dead_end _ (Nat.le_refl _)) ⟨_, i1⟩ ⟨_, i2⟩ k1 ⟨i1, [], 0, i2, trivial⟩
 refine e2 _ _ _ _ _ _ ⟨⟨Nat.lt_succ_self _, by rw [ext_at]⟩, ext_vrs va⟩ r1 ⟨?_, ?_, a'.ro.2.2⟩ (let ⟨l, f⟩ := a'.fl (T1 := hnew T1 (.inst a [])) (g1.trans (g2.trans gg)); ⟨l, f.fr, f.ok⟩) fun ρ3 δ3 h3 t3 val g3 hr3 vr3 => ⟨vr3, ?_⟩
 ·have := a'.ro.1; rw [depth_under_make]; omega
 ·have := a'.ro.2.1; show A.units + 1 + 20 * d < 9000; omega
 ·refine ct ρ3 δ3 h3 t3 _ (g1.trans (g2.trans (gg.trans g3))) hr3 ⟨Nat.lt_of_lt_of_le (Nat.lt_succ_self _) g3.le, ?_⟩
  rw [(g3.same T1.n (Nat.lt_succ_self _)).1, ext_at]
theorem R_meth (ok : Ok c) {m r C f : Nat} {fs : List (Nat × AV)} {ci : CI} (e1 : Ev c o d loc T (.ref r) T1) (ho : T1.get r = some (.inst C fs)) (hc : lk c.G.cls C = some ci) (hm : lk ci.meths m = some f) (hnf : lk fs m = none) (e2 : Evs c l d loc T1 vs T2) (e3 : Ca c f (.ref r :: vs) d T2 v T3) : Ev c (.meth o m l) d loc T v T3 := by
 rintro _ env A s ρ δ Q E ⟨o', l', ap, p, rfl, mo, ns, ms, hl, hlen⟩ a' ct
 have P := MEs.plain (env := env) (pos := p) ms
 have CO := ok.cls C ci hc
 obtain ⟨m1, m2, m3, m4⟩ := CO.meths _ _ hm
 refine wp_meth ns ms hl hlen (e1 _ env A s ρ δ _ E mo a' fun ρ1 δ1 h' t1 va g1 hr1 vr1 pl => ?_)
 rw [vr1.2]
 obtain ⟨es, k, I, F⟩ := InstAt_of (hr1.obj r _ ho).2
 have sh : shadowIn (some (dictOf es k)) (nmS m) = some false := by
  unfold shadowIn
  dsimp only
  rw [(lookIn_fs (k := k) (a := m) F).2 hnf]; rfl
 refine method_fn (s := Sh s h' t1) (hr1.k ok) I CO.ga CO.hk m1 m2 sh ?_
 refine callWith_of (by rw [P.1]; rfl) (keeps_K m3) (wp_args ms (e2 _ env A (Sh s h' t1) ρ1 δ1 _ E p ms (a'.go g1 hr1) fun ρ2 δ2 h2 t2 vals g2 hr2 vr2 => ⟨hr2.k ok, wpAny_call ?_⟩))
 exact e3 A (Sh s h2 t2) ρ2 δ2 _ _ ⟨g2.vr (a := .ref r) ⟨vr1.1, rfl⟩, vr2⟩ hr2 a'.ro (a'.fl (g1.trans g2)) fun ρ3 δ3 h3 t3 val g3 hr3 vr3 => ct ρ3 δ3 h3 t3 val (g1.trans (g2.trans g3)) hr3 vr3
theorem R_methB {m : Nat} {ov : AV} {id : String} (e1 : Ev c o d loc T ov T1) (hg : Bg c ov m id T1) (e2 : Evs c l d loc T1 vs T2) (e3 : Bm c id ov vs d T2 v T3) : Ev c (.meth o m l) d loc T v T3 := by
 rintro _ env A s ρ δ Q E ⟨o', l', ap, p, rfl, mo, ns, ms, hl, hlen⟩ a' ct
 have P := MEs.plain (env := env) (pos := p) ms
 refine wp_meth ns ms hl hlen (e1 _ env A s ρ δ _ E mo a' fun ρ1 δ1 h' t1 va g1 hr1 vr1 pl => ?_)
 refine hg A (Sh s h' t1) ρ1 δ1 va pl _ E vr1 hr1 ?_
 refine Calls.callWith_builtin P.1 (wp_args ms (e2 _ env A (Sh s h' t1) ρ1 δ1 _ E p ms (a'.go g1 hr1) fun ρ2 δ2 h2 t2 vals g2 hr2 vr2 => ?_))
 exact e3 A (Sh s h2 t2) ρ2 δ2 va vals Q E (g2.vr vr1) vr2 hr2 a'.ro fun ρ3 δ3 h3 t3 val g3 hr3 vr3 => ct ρ3 δ3 h3 t3 val (g1.trans (g2.trans g3)) hr3 vr3
end
end Mine
end
section
open PySem PySem.W PyProof.Rows
namespace Mine
section
variable {M : Model} {A : Around} {s : Shared} {env : Env} {E : Value → Shared → Prop}
theorem truthy_bool {b : Bool} {Q : Bool → Shared → Prop} (h : Q b s) : wpAny M A (truthy (.bool b)) Q E s := wpAny_pure h
theorem wp_tcmp {x y : PySem.Expr} {o1 : CmpOp} {pos : Pos} {whole : Sem Value} {Q : Bool → Shared → Prop} (h1 : behindInMarks o1 y = false)
  (h : wpAny M A (eval x env) (fun a s₁ => wpAny M A (eval y env) (fun b s₂ => wpAny M A (compareOp o1 a b) (fun r s₃ => wpAny M A (truthy r) Q E s₃) E s₂) E s₁) E s) :
  wpAny M A (isTrue (.Compare x [o1] [y] pos) env whole) Q E s := by
 rw [isTrue_Compare1, markedBehindIn_of_false h1]
 refine wpAny_bind (wpAny_mono h (fun a s₁ h₁ => wpAny_bind (wpAny_holding (wpAny_mono h₁ (fun b s₂ h₂ => wpAny_bind (wpAny_standAt (wpAny_bind ?_))) fun _ _ q => q))) fun _ _ q => q)
 refine fun Γ p hΓ => ?_
 rw [Sem.wp_operate]
 exact wpAny_mono h₂ (fun r s₃ h₃ => wpAny_holding h₃) (fun _ _ q => q) Γ p hΓ
theorem wp_tcmp2 {x y z : PySem.Expr} {o1 o2 : CmpOp} {pos : Pos} {whole : Sem Value} {Q : Bool → Shared → Prop} (h2 : behindInMarks o2 z = false)
  (h : wpAny M A (eval x env) (fun a s₁ => wpAny M A (eval y env) (fun b s₂ => wpAny M A (compareOp o1 a b) (fun r s₃ => wpAny M A (truthy r) (fun t s₄ => if t then wpAny M A (eval z env) (fun d s₅ => wpAny M A (compareOp o2 b d) (fun r s₆ => wpAny M A (truthy r) Q E s₆) E s₅) E s₄ else Q false s₄) E s₃) E s₂) E s₁) E s) :
  wpAny M A (isTrue (.Compare x [o1, o2] [y, z] pos) env whole) Q E s := by
 show wpAny _ _ (eval x env >>= fun l => testChain pos l [o1, o2] [eval y env, markedBehindIn o2 z (eval z env)]) _ _ _
 rw [markedBehindIn_of_false h2]
 refine wpAny_bind (wpAny_mono h (fun a s₁ h₁ => ?_) fun _ _ q => q)
 show wpAny _ _ (holding [a] (eval y env) >>= fun rv => standAt pos >>= fun _ => holding [a, rv] (compareOp o1 a rv) >>= fun r => release [a, rv] [r] >>= fun _ => holding [r, rv] (truthy r) >>= fun t => if t then testChain pos rv [o2] [eval z env] else pure false) _ _ _
 refine wpAny_bind (wpAny_holding (wpAny_mono h₁ (fun b s₂ h₂ => wpAny_bind (wpAny_standAt (wpAny_bind (wpAny_holding (wpAny_mono h₂ (fun r s₃ h₃ => wpAny_bind (wpAny_release (wpAny_bind (wpAny_holding (wpAny_mono h₃ (fun t s₄ h₄ => ?_) fun _ _ q => q))))) fun _ _ q => q))))) fun _ _ q => q))
 cases t with
 | false => exact wpAny_pure h₄
 | true =>
  show wpAny _ _ (holding [b] (eval z env) >>= fun rv => standAt pos >>= fun _ => operate [b, rv] (compareOp o2 b rv) >>= fun r => holding [r] (truthy r)) _ _ _
  refine wpAny_bind (wpAny_holding (wpAny_mono h₄ (fun d s₅ h₅ => wpAny_bind (wpAny_standAt (wpAny_bind ?_))) fun _ _ q => q))
  refine fun Γ p hΓ => ?_
  rw [Sem.wp_operate]
  exact wpAny_mono h₅ (fun r s₃ h₃ => wpAny_holding h₃) (fun _ _ q => q) Γ p hΓ
end

noncomputable def Bi (c : Cx) (op : Bop) (a b : AV) (T : Hp) (v : AV) (T' : Hp) : Prop :=
 ∀ (A : Around) (s : Shared) (ρ δ : Nat → Addr) (va vb : Value) (Q E : Value → Shared → Prop), HR c ρ δ T T.n s.heap → VR T.n ρ a va → VR T.n ρ b vb → Kv c s ρ δ T T' v Q → wpAny (model c.prog c.w) A (binaryOp op.op va vb) Q E s
noncomputable def Cm (c : Cx) (op : Cop) (a b : AV) (T : Hp) (t : Bool) : Prop :=
 ∀ (d : Nat) (A : Around) (s : Shared) (ρ δ : Nat → Addr) (va vb : Value) (Q E : Value → Shared → Prop), HR c ρ δ T T.n s.heap → Room d A → VR T.n ρ a va → VR T.n ρ b vb →
  (∀ h' t', Go c No ρ δ T.n s.heap ρ δ T.n h' → HR c ρ δ T T.n h' → Q (.bool t) (Sh s h' t')) → wpAny (model c.prog c.w) A (compareOp op.op va vb) Q E s
noncomputable def Ts (c : Cx) (w : Bool) (l : PEs) (d : Nat) (loc : Loc) (T : Hp) (b : Bool) (T' : Hp) : Prop :=
 ∀ (x : List PySem.Expr) (env : Env) (A : Around) (s : Shared) (ρ δ : Nat → Addr) (Q : Bool → Shared → Prop) (E : Value → Shared → Prop), MEs l env.kindOf x → At c d loc T env A s ρ δ →
  (∀ ρ' δ' h' t', Go c No ρ δ T.n s.heap ρ' δ' T'.n h' → HR c ρ' δ' T' T'.n h' → Q b (Sh s h' t')) → wpAny (model c.prog c.w) A (allTrue (if w then .And else .Or) x env) Q E s
noncomputable def Bo (c : Cx) (w : Bool) (l : PEs) (d : Nat) (loc : Loc) (T : Hp) (v : AV) (T' : Hp) : Prop :=
 ∀ (x : List PySem.Expr) (env : Env) (A : Around) (s : Shared) (ρ δ : Nat → Addr) (Q E : Value → Shared → Prop) (pos : Pos), MEs l env.kindOf x → At c d loc T env A s ρ δ → Kv c s ρ δ T T' v Q → wpAny (model c.prog c.w) A (boolOp pos (if w then .And else .Or) (evalEach x env)) Q E s
section
variable {c : Cx} {d : Nat} {loc : Loc} {T T1 T2 T3 : Hp} {v a b x : AV} {e e2 e3 : PE} {l : PEs} {t w : Bool}
theorem R_bin {op : Bop} (e1 : Ev c e d loc T a T1) (h2 : Ev c e2 d loc T1 b T2) (hb : Bi c op a b T2 v T3) : Ev c (.bin op e e2) d loc T v T3 := by
 rintro _ env A s ρ δ Q E ⟨l', r', p, rfl, ml, mr⟩ at' ct
 refine wpAny_BinOp (e1 _ env A s ρ δ _ E ml at' fun ρ1 δ1 h1 t1 va g1 hr1 vr1 => ?_)
 refine h2 _ env A (Sh s h1 t1) ρ1 δ1 _ E mr (at'.go g1 hr1) fun ρ2 δ2 h2 t2 vb g2 hr2 vr2 => ?_
 exact hb A (Sh s h2 t2) ρ2 δ2 va vb Q E hr2 (g2.vr vr1) vr2 (Kv.go ct (g1.trans g2))
theorem R_cmp {op : Cop} (e1 : Ev c e d loc T a T1) (h2 : Ev c e2 d loc T1 b T2) (hb : Cm c op a b T2 t) : Ev c (.cmp op e e2) d loc T (.bool t) T2 := by
 rintro _ env A s ρ δ Q E ⟨l', r', p, rfl, ml, mr, hm⟩ at' ct
 refine wpAny_Compare1 (e1 _ env A s ρ δ _ E ml at' fun ρ1 δ1 h1 t1 va g1 hr1 vr1 => ?_) hm
 refine h2 _ env A (Sh s h1 t1) ρ1 δ1 _ E mr (at'.go g1 hr1) fun ρ2 δ2 h2 t2 vb g2 hr2 vr2 => ?_
 exact hb d A (Sh s h2 t2) ρ2 δ2 va vb Q E hr2 at'.ro (g2.vr vr1) vr2 fun h3 t3 g3 r3 => ct ρ2 δ2 h3 t3 _ (g1.trans (g2.trans g3)) r3 rfl
theorem T_cmp {op : Cop} (e1 : Ev c e d loc T a T1) (h2 : Ev c e2 d loc T1 b T2) (hb : Cm c op a b T2 t) : Tr c (.cmp op e e2) d loc T t T2 := by
 rintro _ env A s ρ δ Q E ⟨l', r', p, rfl, ml, mr, hm⟩ at' ct
 refine wp_tcmp hm (e1 _ env A s ρ δ _ E ml at' fun ρ1 δ1 h1 t1 va g1 hr1 vr1 => ?_)
 refine h2 _ env A (Sh s h1 t1) ρ1 δ1 _ E mr (at'.go g1 hr1) fun ρ2 δ2 h2 t2 vb g2 hr2 vr2 => ?_
 exact hb d A (Sh s h2 t2) ρ2 δ2 va vb _ E hr2 at'.ro (g2.vr vr1) vr2 fun h3 t3 g3 r3 => truthy_bool (ct ρ2 δ2 h3 t3 (g1.trans (g2.trans g3)) r3)
theorem T_not (e1 : Tr c e d loc T t T1) : Tr c (.not e) d loc T (!t) T1 := by
 rintro _ env A s ρ δ Q E ⟨e', p, rfl, me⟩ at' ct
 show wpAny _ _ (isTrue e' env (eval e' env) >>= fun t => pure !t) _ _ _
 exact wpAny_bind (e1 _ env A s ρ δ _ E me at' fun ρ1 δ1 h1 t1 g1 hr1 => wpAny_pure (ct ρ1 δ1 h1 t1 g1 hr1))
theorem R_not (e1 : Ev c e d loc T (.bool t) T1) : Ev c (.not e) d loc T (.bool (!t)) T1 := by
 rintro _ env A s ρ δ Q E ⟨e', p, rfl, me⟩ at' ct
 refine wpAny_UnaryOp (e1 _ env A s ρ δ _ E me at' fun ρ1 δ1 h1 t1 va g1 hr1 vr1 => ?_)
 rw [vr1]
 exact not_of (truthy_bool (ct ρ1 δ1 h1 t1 _ g1 hr1 rfl))
theorem R_neg {i : Int} (e1 : Ev c e d loc T (.int i) T1) : Ev c (.neg e) d loc T (.int (-i)) T1 := by
 rintro _ env A s ρ δ Q E ⟨e', p, rfl, me⟩ at' ct
 refine wpAny_UnaryOp (e1 _ env A s ρ δ _ E me at' fun ρ1 δ1 h1 t1 va g1 hr1 vr1 => ?_)
 obtain ⟨t, rfl⟩ := vr1
 exact P.neg_int (ct ρ1 δ1 h1 _ _ g1 hr1 ⟨_, rfl⟩)
theorem T_and (h : Ts c true l d loc T t T1) : Tr c (.and l) d loc T t T1 := by
 rintro _ env A s ρ δ Q E ⟨l', p, rfl, ms⟩ at' ct
 exact h _ env A s ρ δ Q E ms at' ct
theorem T_or (h : Ts c false l d loc T t T1) : Tr c (.or l) d loc T t T1 := by
 rintro _ env A s ρ δ Q E ⟨l', p, rfl, ms⟩ at' ct
 exact h _ env A s ρ δ Q E ms at' ct
theorem Ts_nil : Ts c w .nil d loc T w T := by
 rintro _ env A s ρ δ Q E rfl at' ct
 refine wpAny_pure ?_
 have := ct ρ δ s.heap s.toks Go.refl at'.hr
 cases w <;> exact this
theorem Ts_go (e1 : Tr c e d loc T w T1) (h2 : Ts c w l d loc T1 t T2) : Ts c w (.cons e l) d loc T t T2 := by
 rintro _ env A s ρ δ Q E ⟨x, xs, rfl, me, ms, ns⟩ at' ct
 show wpAny _ _ (isTrue x env (eval x env) >>= fun t => match (if w then BoolOp.And else .Or), t with | .And, false => pure false | .Or, true => pure true | _, _ => allTrue (if w then .And else .Or) xs env) _ _ _
 refine wpAny_bind (e1 _ env A s ρ δ _ E me at' fun ρ1 δ1 h1 t1 g1 hr1 => ?_)
 have key := h2 _ env A (Sh s h1 t1) ρ1 δ1 Q E ms (at'.go g1 hr1) fun ρ2 δ2 h2 t2 g2 hr2 => ct ρ2 δ2 h2 t2 (g1.trans g2) hr2
 cases w <;> exact key
theorem Ts_stop (e1 : Tr c e d loc T (!w) T1) : Ts c w (.cons e l) d loc T (!w) T1 := by
 rintro _ env A s ρ δ Q E ⟨x, xs, rfl, me, ms, ns⟩ at' ct
 show wpAny _ _ (isTrue x env (eval x env) >>= fun t => match (if w then BoolOp.And else .Or), t with | .And, false => pure false | .Or, true => pure true | _, _ => allTrue (if w then .And else .Or) xs env) _ _ _
 refine wpAny_bind (e1 _ env A s ρ δ _ E me at' fun ρ1 δ1 h1 t1 g1 hr1 => ?_)
 have key := ct ρ1 δ1 h1 t1 g1 hr1
 cases w <;> exact wpAny_pure key
theorem R_and (h : Bo c true l d loc T v T1) : Ev c (.and l) d loc T v T1 := by
 rintro _ env A s ρ δ Q E ⟨l', p, rfl, ms⟩ at' ct
 exact h _ env A s ρ δ Q E p ms at' ct
theorem Bo_stop (e1 : Ev c e d loc T (.bool (!w)) T1) : Bo c w (.cons e (.cons e2 l)) d loc T (.bool (!w)) T1 := by
 rintro _ env A s ρ δ Q E pos ⟨x, xs, rfl, me, ⟨y, ys, rfl, my, ms, ns2⟩, ns⟩ at' ct
 show wpAny _ _ (eval x env >>= fun v => standAt pos >>= fun _ => holding [v] (truthy v) >>= fun t => match (if w then BoolOp.And else .Or), t with | .And, false | .Or, true => pure v | _, _ => boolOp pos (if w then .And else .Or) (evalEach (y :: ys) env)) _ _ _
 refine wpAny_bind (e1 _ env A s ρ δ _ E me at' fun ρ1 δ1 h1 t1 va g1 hr1 vr1 => wpAny_bind (wpAny_standAt (wpAny_bind (wpAny_holding ?_))))
 rw [vr1]
 refine truthy_bool ?_
 have key := ct ρ1 δ1 h1 t1 (.bool (!w)) g1 hr1 rfl
 cases w <;> exact wpAny_pure key
noncomputable def plainT : PE → Bool
 | .loc _ => true | .attr .. => true | .call .. => true | .meth .. => true | .glb _ => true | .sub .. => true
 | _ => false
theorem isT_plain {kd : Kd} {x : PySem.Expr} (h : plainT e = true) (me : ME e kd x) (env : Env) (whole : Sem Value) : isTrue x env whole = (whole >>= fun v => standAt x.pos >>= fun _ => holding [v] (truthy v)) := by
 cases e <;> first
  | exact Bool.noConfusion h
  | (obtain ⟨_, rfl, _⟩ := me; rfl)
  | (obtain ⟨_, _, rfl, _⟩ := me; rfl)
  | (obtain ⟨_, _, _, rfl, _⟩ := me; rfl)
  | (obtain ⟨_, _, _, _, rfl, _⟩ := me; rfl)
theorem T_plain (h : plainT e = true) (e1 : Ev c e d loc T (.bool t) T1) : Tr c e d loc T t T1 := by
 intro x env A s ρ δ Q E me at' ct
 rw [isT_plain h me]
 refine wpAny_bind (e1 _ env A s ρ δ _ E me at' fun ρ1 δ1 h1 t1 va g1 hr1 vr1 => wpAny_bind (wpAny_standAt (wpAny_holding ?_)))
 rw [vr1]
 exact truthy_bool (ct ρ1 δ1 h1 t1 g1 hr1)
end
end Mine
end
section
open PySem PySem.W PyProof.Rows
namespace Mine
section
variable {prog : Program} {w : World} {A : Around} {E : Value → Shared → Prop} {s : Shared}
theorem draw_list {it t : Addr} {items : Array Value} (hne : t ≠ it) : ∀ (n i : Nat) (s : Shared) (Q : List Value → Shared → Prop), s.heap.IsListIter it t i → s.heap.IsList t items → i + n ≤ items.size →
  (∀ h', h'.IsListIter it t (i + n) → Heap.SameBut it s.heap h' → Q ((items.toList.drop i).take n) { s with heap := h' }) → wpAny (model prog w) A (draw (.ref it) n) Q E s
 | 0, i, s, Q, hit, _, _, hQ => by
  show wpAny _ _ (pure []) Q E s
  exact wpAny_pure (by simpa using hQ s.heap hit (Heap.SameBut.refl ..))
 | n + 1, i, s, Q, hit, ht, hle, hQ => by
  have hlt : i < items.size := by omega
  show wpAny _ _ (pyNext (.ref it) >>= _) Q E s
  refine wpAny_bind (wpAny_pyNext_list_item hit ht (x := items[i]) (by simp [hlt]) fun h₁ hit₁ hs₁ => ?_)
  refine wpAny_bind (wpAny_holding (draw_list hne n (i + 1) _ _ hit₁ (ht.extBut hs₁.extBut hne) (by omega) fun h₂ hit₂ hs₂ => wpAny_pure ?_))
  have hd : items.toList.drop i = items[i] :: items.toList.drop (i + 1) := by simp [List.drop_eq_getElem_cons, hlt]
  have := hQ h₂ (by rw [show i + (n + 1) = i + 1 + n by omega]; exact hit₂) (hs₁.trans hs₂)
  rw [hd, List.take_succ_cons] at this
  exact this
theorem isList_push {h : Heap} {t : Addr} {items : Array Value} (ht : h.IsList t items) (o : Obj) : (h.push o).IsList t items := by
 obtain ⟨x, h1, h2⟩ := ht
 exact ⟨x, Heap.get?_push_of_some _ h1, h2⟩
theorem unpackItems_list {t : Addr} {items : Array Value} {Q : List Value → Shared → Prop} (hh : A.handled = none) (ht : s.heap.IsList t items)
  (hQ : ∀ h', Heap.ExtBut s.heap.objs.size s.heap h' → Q items.toList { s with heap := h' }) : wpAny (model prog w) A (unpackItems (.ref t) items.size none) Q E s := by
 have hlt : t ≠ s.heap.objs.size := by obtain ⟨o, ho, _⟩ := ht; exact Nat.ne_of_lt (Heap.lt_size ho)
 unfold unpackItems
 refine wpAny_bind ?_
 ·unfold notIterableAtAll
  refine wpAny_bind (wpAny_specialOf ht.typeIs slot_list_iter.lookup ?_)
  refine wpAny_pure ?_
  simp only [Bool.false_eq_true, if_false]
  refine wpAny_bind (wpAny_holding (wpAny_pyIter_list ht ?_))
  refine wpAny_bind (wpAny_holding (draw_list hlt items.size 0 _ _ ⟨_, Heap.get?_push_size _ rfl, rfl, rfl⟩ (isList_push ht _) (by omega) fun h₁ hit₁ hs₁ => ?_))
  have hall : List.take items.size (List.drop 0 items.toList) = items.toList := by
   rw [List.drop_zero]; exact List.take_of_length_le (by simp)
  rw [hall]
  rw [if_neg (by simp)]
  have ht₁ : h₁.IsList t items := (isList_push ht _).extBut hs₁.extBut hlt
  refine wpAny_bind (wpAny_holding (wpAny_pyNext_list_end hh hit₁ ht₁ (by simp) fun h₂ he₂ => ?_))
  simp only [Option.isSome_none, Bool.false_eq_true, if_false]
  refine wpAny_pure (hQ h₂ fun b o hb e => he₂ b o hb (hs₁.extBut b o hb (Heap.get?_push_of_some _ e)))
end
section
variable {c : Cx} {loc : Loc} {T : Hp} {d n : Nat} {env : Env} {A : Around} {s : Shared} {ρ δ : Nat → Addr} {E : Value → Shared → Prop}
theorem items_snd {r : Nat} {vs : List AV} {Q : List Value → Shared → Prop} (hr : HR c ρ δ T n s.heap) (ro : Room d A) (ho : T.get r = some (.tuple vs) ∨ T.get r = some (.list vs))
  (nx : ∀ h' vals, (∀ b o, s.heap.get? b = some o → h'.get? b = some o) → VRs n ρ vs vals → Q vals { s with heap := h' }) : wpAny (model c.prog c.w) A (unpackItems (.ref (ρ r)) vs.length none) Q E s := by
 rcases ho with ho | ho
 ·obtain ⟨vals, k, h1, h2⟩ := (hr.obj r _ ho).2
  have ht : s.heap.IsTuple (ρ r) vals.toArray := ⟨_, h1, rfl, k, rfl⟩
  rw [show vs.length = vals.toArray.size by rw [List.size_toArray, h2.len]]
  exact wpAny_unpackItems_tuple ro.2.2 ht fun h' he => by
   have := nx h' vals (fun b o e => he b o (Nat.ne_of_lt (Heap.lt_size e)) e) h2
   simpa using this
 ·obtain ⟨vals, k, h1, h2⟩ := (hr.obj r _ ho).2
  have ht : s.heap.IsList (ρ r) vals.toArray := ⟨_, h1, rfl, k, rfl⟩
  rw [show vs.length = vals.toArray.size by rw [List.size_toArray, h2.len]]
  exact unpackItems_list ro.2.2 ht fun h' he => by
   have := nx h' vals (fun b o e => he b o (Nat.ne_of_lt (Heap.lt_size e)) e) h2
   simpa using this
noncomputable def Binds (env : Env) (x : Nat) (f : Value → Sem Unit) : Prop := ∀ v, (∃ p, f v = (standAt p >>= fun _ => bindName env (nmS x) v)) ∨ f v = bindName env (nmS x) v
noncomputable def BindsAll (env : Env) : List Nat → List (Value → Sem Unit) → Prop
 | [], [] => True
 | x :: xs, f :: fs => Binds env x f ∧ BindsAll env xs fs
 | _, _ => False
noncomputable def setAll : List Nat → List AV → Loc → Option Loc
 | [], [], l => some l
 | x :: xs, v :: vs, l => setAll xs vs (pt l x v)
 | _, _, _ => none
theorem names_snd {X : Addr → Prop} {Q : Unit → Shared → Prop} (xs : List Nat) : ∀ (vs : List AV) (vals : List Value) (loc loc' : Loc) (s : Shared) (fs : List (Value → Sem Unit)), setAll xs vs loc = some loc' → (∀ x ∈ xs, mine? (env.kindOf (nmS x)) = true) → FR c ρ δ n loc env s.heap → HR c ρ δ T n s.heap → VRs n ρ vs vals →
  (∀ h' t', Go c X ρ δ n s.heap ρ δ n h' → HR c ρ δ T n h' → FR c ρ δ n loc' env h' → Q () (Sh s h' t')) → BindsAll env xs fs → (∀ x ∈ xs, StX env X x) → wpAny (model c.prog c.w) A (assignInOrder fs vals) Q E s := by
 induction xs with
 | nil =>
  intro vs vals loc loc' s fs e hm fr hr vr nx hf hX
  cases fs with
  | cons => exact hf.elim
  | nil =>
   cases vs with
   | cons => cases e
   | nil =>
    cases e
    exact wpAny_pure (nx s.heap s.toks Go.refl hr fr)
 | cons x xs ih =>
  intro vs vals loc loc' s fs e hm fr hr vr nx hf hX
  cases fs with
  | nil => exact hf.elim
  | cons f fs =>
   cases vs with
   | nil => cases e
   | cons v vs =>
    cases vals with
    | nil => exact vr.elim
    | cons val vals =>
     show wpAny _ _ (holding vals (f val) >>= fun _ => assignInOrder fs vals) _ _ _
     refine wpAny_bind (wpAny_holding ?_)
     have key : wpAny (model c.prog c.w) A (bindName env (nmS x) val) (fun _ s' => wpAny (model c.prog c.w) A (assignInOrder fs vals) Q E s') E s := by
      refine wpAny_bindName (store_sndX (X := X) fr hr vr.1 (hm x (.head _)) (fun h' t' g r f' => ?_) (hX x (.head _)))
      exact ih vs vals _ loc' (Sh s h' t') fs e (fun y hy => hm y (.tail _ hy)) f' r vr.2 (fun h'' t'' g' => nx h'' t'' (g.trans g')) hf.2 (fun y hy => hX y (.tail _ hy))
     rcases hf.1 val with ⟨p, q⟩ | q
     ·rw [q]; exact wpAny_bind (wpAny_standAt key)
     ·rw [q]; exact key
theorem setAll_len {xs : List Nat} {vs : List AV} {l l' : Loc} (e : setAll xs vs l = some l') : xs.length = vs.length := by
 induction xs generalizing vs l with
 | nil => cases vs with
  | nil => rfl
  | cons => cases e
 | cons x xs ih => cases vs with
  | nil => cases e
  | cons v vs => exact congrArg (· + 1) (ih e)
theorem MNs.each {xs : List Nat} {l : List PySem.Expr} (h : MNs env.kindOf xs l) : (∀ x ∈ xs, mine? (env.kindOf (nmS x)) = true) ∧ (assignEach l env).length = xs.length ∧ (assignEach l env).findIdx? (·.1) = none ∧ BindsAll env xs ((assignEach l env).map (·.2)) := by
 induction xs generalizing l with
 | nil => cases h; exact ⟨fun _ h => (nomatch h), rfl, rfl, trivial⟩
 | cons x xs ih =>
  obtain ⟨np, l, rfl, h1, h2⟩ := h
  obtain ⟨a, b, c', d'⟩ := ih h2
  have e1 : assignEach (.Name (nmS x) np :: l) env = (false, assign (.Name (nmS x) np) env) :: assignEach l env := rfl
  rw [e1]
  refine ⟨fun y hy => ?_, congrArg (· + 1) b, ?_, ⟨fun v => .inl ⟨np, rfl⟩, d'⟩⟩
  ·rcases List.mem_cons.mp hy with rfl | hy
   ·exact h1
   ·exact a y hy
  ·rw [List.findIdx?_cons, c']; rfl
noncomputable def BindTo (T : Hp) (xs : List Nat) (v : AV) (loc loc' : Loc) : Prop :=
 (∃ x, xs = [x] ∧ loc' = pt loc x v) ∨ (2 ≤ xs.length ∧ ∃ r vs, v = .ref r ∧ (T.get r = some (.tuple vs) ∨ T.get r = some (.list vs)) ∧ setAll xs vs loc = some loc')
theorem bind_one {x : Nat} {v : AV} : BindTo T [x] v loc (pt loc x v) := .inl ⟨x, rfl, rfl⟩
theorem tuple_snd {X : Addr → Prop} {xs : List Nat} {l : List PySem.Expr} {k r : Nat} {p : Pos} {vs : List AV} {loc' : Loc} {Q : Unit → Shared → Prop} (hm : MNs env.kindOf xs l) (ho : T.get r = some (.tuple vs) ∨ T.get r = some (.list vs)) (hs : setAll xs vs loc = some loc') (fr : FR c ρ δ n loc env s.heap) (hr : HR c ρ δ T n s.heap) (ro : Room d A)
  (nx : ∀ h' t', Go c X ρ δ n s.heap ρ δ n h' → HR c ρ δ T n h' → FR c ρ δ n loc' env h' → Q () (Sh s h' t')) (hX : ∀ x ∈ xs, StX env X x) : wpAny (model c.prog c.w) A (assign (.Tuple l k p) env (.ref (ρ r))) Q E s := by
 obtain ⟨m1, m2, m3, m4⟩ := hm.each
 rw [arm_assign_Tuple]
 refine wpAny_bind (wpAny_standAt ?_)
 unfold unpack
 rw [m2, m3]
 show wpAny (model c.prog c.w) A (holding [.ref (ρ r)] (unpackItems (.ref (ρ r)) xs.length none) >>= fun items => assignInOrder ((assignEach l env).map (·.2)) items) Q E s
 rw [setAll_len hs]
 refine wpAny_bind (wpAny_holding (items_snd hr ro ho fun h' vals k vr' => ?_))
 exact names_snd xs vs vals loc loc' { s with heap := h' } _ hs m1 (fr.go (Go.of_keeps (X := No) k)) (hr.of_keeps k) vr' (fun h'' t'' g r f => nx h'' t'' ((Go.of_keeps k).trans g) r f) m4 hX
theorem bind_sndX {X : Addr → Prop} {xs : List Nat} {tg : PySem.Expr} {v : AV} {val : Value} {loc' : Loc} {Q : Unit → Shared → Prop} (hb : BindTo T xs v loc loc') (mt : MT env.kindOf xs tg) (fr : FR c ρ δ n loc env s.heap) (hr : HR c ρ δ T n s.heap) (ro : Room d A) (vr : VR n ρ v val)
  (nx : ∀ h' t', Go c X ρ δ n s.heap ρ δ n h' → HR c ρ δ T n h' → FR c ρ δ n loc' env h' → Q () (Sh s h' t')) (hX : ∀ x ∈ xs, StX env X x) : wpAny (model c.prog c.w) A (assign tg env val) Q E s := by
 rcases mt with ⟨x, np, rfl, rfl, hk⟩ | ⟨l, k, p, h2, rfl, hm⟩
 ·rcases hb with ⟨y, q, rfl⟩ | ⟨q, _⟩
  ·cases q
   exact wpAny_bind (wpAny_standAt (wpAny_bindName (store_sndX fr hr vr hk nx (hX _ (.head _)))))
  ·exact absurd q (by simp)
 ·rcases hb with ⟨y, q, rfl⟩ | ⟨_, r, vs, rfl, ho, hs⟩
  ·rw [q] at h2; exact absurd h2 (by simp)
  ·rw [vr.2]
   exact tuple_snd hm ho hs fr hr ro nx hX
theorem bind_snd {xs : List Nat} {tg : PySem.Expr} {v : AV} {val : Value} {loc' : Loc} {Q : Unit → Shared → Prop} (hb : BindTo T xs v loc loc') (mt : MT env.kindOf xs tg) (fr : FR c ρ δ n loc env s.heap) (hr : HR c ρ δ T n s.heap) (ro : Room d A) (vr : VR n ρ v val)
  (nx : ∀ h' t', Go c (Own env) ρ δ n s.heap ρ δ n h' → HR c ρ δ T n h' → FR c ρ δ n loc' env h' → Q () (Sh s h' t')) : wpAny (model c.prog c.w) A (assign tg env val) Q E s := bind_sndX hb mt fr hr ro vr nx fun _ _ => stx_own
end
theorem swapped_eq {env : Env} {ts vs : List PySem.Expr} {k a : Nat} {tp b : Pos} {names : List Str} (hk : env.scope.kind = .function) (h : swapB env.kindOf ts vs = some names) : swappedStores [.Tuple ts k tp] (.Tuple vs a b) env = pure (some names) := by
 unfold swapB at h
 split at h
 ·cases h
 ·rename_i c1
  split at h
  ·cases h
  ·rename_i c2
   dsimp only at h
   split at h
   ·cases h
   ·rename_i c3
    split at h
    ·cases h
    ·rename_i c4
     split at h
     ·cases h
     ·rename_i c5
      have bk : env.blockKind = .function := by unfold Env.blockKind; rw [hk]; rfl
      have bk' : (env.blockKind != .function) = false := by rw [bk]; rfl
      cases h
      unfold swappedStores
      dsimp only
      rw [bk', Bool.or_false]
      refine (if_neg c1).trans ?_
      refine (if_neg c2).trans ?_
      refine (if_neg c3).trans ?_
      refine (if_neg c4).trans ?_
      exact if_neg c5
theorem swapB_local {kd : Kd} {ts vs : List PySem.Expr} {names : List Str} (h : swapB kd ts vs = some names) : ∀ x ∈ names, kd x = some .local := by
 unfold swapB at h
 split at h
 ·cases h
 ·split at h
  ·cases h
  ·dsimp only at h
   split at h
   ·cases h
   ·split at h
    ·cases h
    ·split at h
     ·cases h
     ·cases h
      intro x hx
      obtain ⟨e, he, q⟩ := List.mem_filterMap.mp hx
      cases e with
      | Name id pos =>
       have q : (if (kd id == some .local && pos.line == _) = true then some id else none) = some x := q
       split at q
       ·rename_i z
        cases q
        exact eq_of_beq (Bool.and_eq_true_iff.mp z).1
       ·cases q
      | _ => cases q
theorem VRs.append {n : Nat} {ρ : Nat → Addr} {a b : List AV} {v w : List Value} (h : VRs n ρ a v) (h2 : VRs n ρ b w) : VRs n ρ (a ++ b) (v ++ w) := by
 induction a generalizing v with
 | nil => cases v with
  | nil => exact h2
  | cons => exact h.elim
 | cons x a ih => cases v with
  | nil => exact h.elim
  | cons y v => exact ⟨h.1, ih h.2⟩
theorem VRs_reverse {n : Nat} {ρ : Nat → Addr} {a : List AV} {v : List Value} (h : VRs n ρ a v) : VRs n ρ a.reverse v.reverse := by
 induction a generalizing v with
 | nil => cases v with
  | nil => trivial
  | cons => exact h.elim
 | cons x a ih => cases v with
  | nil => exact h.elim
  | cons y v =>
   rw [List.reverse_cons, List.reverse_cons]
   exact (ih h.2).append ⟨h.1, trivial⟩
theorem binds_names {env : Env} (xs : List Nat) : BindsAll env xs ((xs.map nmS).map fun n => bindName env n) := by
 induction xs with
 | nil => trivial
 | cons x xs ih => exact ⟨fun v => .inr rfl, ih⟩
section
variable {c : Cx} {d : Nat} {loc loc' : Loc} {T T1 : Hp} {e : PE} {vs : List AV} {xs : List Nat} {r : Nat}
theorem R_asgT (e1 : Ev c e d loc T (.ref r) T1) (ho : T1.get r = some (.tuple vs) ∨ T1.get r = some (.list vs)) (hs : setAll xs vs loc = some loc') : St c (.asgT xs e) d loc T (.nxt loc') T1 := by
 rintro _ env A s ρ δ Q E ⟨l, k, tp, e', p, rfl, me, mn, _, nt⟩ a ct
 refine wpAny_Assign_stores (e1 _ env A s ρ δ _ E me a fun ρ1 δ1 h' t1 va g1 hr1 vr1 => ?_) (by cases e' <;> rfl) (by cases e' <;> first | rfl | cases nt)
 show wpAny _ _ (assign (.Tuple l k tp) env va) _ _ _
 rw [vr1.2]
 exact tuple_snd (X := Own env) (s := Sh s h' t1) mn ho hs (a.fr.go g1) hr1 a.ro (fun h2 t2 g2 r2 f2 => ct ρ1 δ1 h2 t2 (g1.any.trans g2) r2 f2) fun _ _ => stx_own
theorem R_asgW (e1 : Ev c e d loc T (.ref r) T1) (ho : T1.get r = some (.tuple vs)) (hs : setAll xs.reverse vs.reverse loc = some loc') : St c (.asgW xs e) d loc T (.nxt loc') T1 := by
 rintro _ env A s ρ δ Q E ⟨l, k, tp, us, a1, b1, p, rfl, me, sw⟩ a ct
 rw [arm_exec_Assign]
 refine wpAny_bind (wpAny_standAt ?_)
 refine wpAny_bind (wpAny_of_eq (a := false) rfl ?_)
 show wpAny _ _ (eval (.Tuple us a1 b1) env >>= fun v => swappedStores [.Tuple l k tp] (.Tuple us a1 b1) env >>= fun sw => assignStores env v sw _) _ _ _
 refine wpAny_bind (e1 _ env A s ρ δ _ E me a fun ρ1 δ1 h' t1 va g1 hr1 vr1 => ?_)
 refine wpAny_bind (wpAny_of_eq (swapped_eq a.fr.kind sw) ?_)
 rw [vr1.2]
 show wpAny _ _ (rule "assign.swapped-stores" >>= fun _ => unpackItems (.ref (ρ1 r)) (xs.map nmS).length none >>= fun items => assignInOrder ((xs.map nmS).reverse.map fun n => bindName env n) items.reverse >>= fun _ => pure Flow.next) _ _ _
 have len : (xs.map nmS).length = vs.length := by
  have := setAll_len hs
  rw [List.length_reverse, List.length_reverse] at this
  rw [List.length_map, this]
 rw [len]
 have mine : ∀ x ∈ xs, mine? (env.kindOf (nmS x)) = true := by
  intro x hx
  have q := swapB_local sw (nmS x) (List.mem_map_of_mem hx)
  rw [q]; rfl
 refine wpAny_bind (wpAny_rule (wpAny_bind (items_snd (s := Sh s h' t1) hr1 a.ro (.inl ho) fun h2 vals k2 vr2 => wpAny_bind ?_)))
 refine names_snd (X := Own env) (s := { Sh s h' t1 with heap := h2 }) xs.reverse vs.reverse vals.reverse loc loc' _ hs (fun x hx => mine x (List.mem_reverse.mp hx)) ((a.fr.go g1).go (Go.of_keeps (X := No) k2)) (hr1.of_keeps k2) (VRs_reverse vr2) (fun h3 t3 g3 r3 f3 => wpAny_pure (ct ρ1 δ1 h3 t3 (g1.any.trans ((Go.of_keeps k2).trans g3)) r3 f3)) ?_ (fun _ _ => stx_own)
 rw [← List.map_reverse]
 exact binds_names xs.reverse
end
end Mine
end
section
open PySem PySem.W PyProof.Rows
namespace Mine
theorem fold_no {e : PySem.Expr} {env : Env} (h : notSet e = true) (x : Value) : foldedSetIterable e env x = pure x := by cases e <;> first | rfl | cases h
inductive IK where | list | tuple | dict (len ep : Nat) | range (lo : Int) (len : Nat)
noncomputable def ItAt (h : Heap) (I a : Addr) : IK → Nat → Prop
 | .list, i => h.IsListIter I a i
 | .tuple, i => h.IsTupleIter I a i
 | .dict len ep, i => h.IsKeyIter I a i len ep
 | .range lo len, i => IsRangeIter h I (lo + (i : Int)) ((len : Int) - (i : Int)) 1
theorem VRs.at {n : Nat} {ρ : Nat → Addr} {a : List AV} {v : List Value} (h : VRs n ρ a v) {i : Nat} {x : AV} (e : a[i]? = some x) : ∃ y, v[i]? = some y ∧ VR n ρ x y := by
 induction a generalizing v i with
 | nil => simp at e
 | cons z a ih => cases v with
  | nil => exact h.elim
  | cons y v => cases i with
   | zero => cases e; exact ⟨y, rfl, h.1⟩
   | succ i => exact ih h.2 e
theorem KR.len {K : Type} {is : AV → K → Prop} {n : Nat} {ρ : Nat → Addr} {a : List (AV × AV)} {v : List (K × Value)} (h : KR n ρ is a v) : a.length = v.length := by
 induction a generalizing v with
 | nil => cases v with
  | nil => rfl
  | cons => exact h.elim
 | cons x a ih => cases v with
  | nil => exact h.elim
  | cons y v => exact congrArg (· + 1) (ih h.2.2)
theorem KR.at {K : Type} {is : AV → K → Prop} {n : Nat} {ρ : Nat → Addr} {a : List (AV × AV)} {v : List (K × Value)} (h : KR n ρ is a v) {i : Nat} {x : AV} (e : (a.map (·.1))[i]? = some x) : ∃ k y, v[i]? = some (k, y) ∧ is x k := by
 induction a generalizing v i with
 | nil => simp at e
 | cons z a ih => cases v with
  | nil => exact h.elim
  | cons y v => cases i with
   | zero => cases e; exact ⟨y.1, y.2, rfl, h.1⟩
   | succ i => exact ih h.2.2 e
theorem isS_of {x : AV} {k : Str} (h : isS x k) {key : Value} (q : Value.isStrOf k key = true) (n : Nat) (ρ : Nat → Addr) : VR n ρ x key := by
 cases x <;> first | exact h.elim | skip
 obtain ⟨t, rfl⟩ := Value.isStrOf_shape q
 cases h; exact ⟨t, rfl⟩
theorem isI_of {x : AV} {k : Int} (h : isI x k) {key : Value} (q : Value.isInt k key = true) (n : Nat) (ρ : Nat → Addr) : VR n ρ x key := by
 cases x <;> first | exact h.elim | skip
 obtain ⟨t, rfl⟩ := Value.isInt_shape q
 cases h; exact ⟨t, rfl⟩
noncomputable def Turn (T : Hp) (src i : Nat) (x : Option AV) : IK → Prop
 | .list => ∃ xs, T.get src = some (.list xs) ∧ xs[i]? = x
 | .tuple => ∃ xs, T.get src = some (.tuple xs) ∧ xs[i]? = x
 | .dict len ep => ∃ es, T.get src = some (.dict es ep) ∧ es.length = len ∧ (es.map (·.1))[i]? = x
 | .range lo len => (i < len ∧ x = some (.int (lo + i))) ∨ (len ≤ i ∧ x = none)
noncomputable def IkOf (T : Hp) (src : Nat) : IK → Prop
 | .list => ∃ xs, T.get src = some (.list xs)
 | .tuple => ∃ xs, T.get src = some (.tuple xs)
 | .dict len ep => ∃ es, T.get src = some (.dict es ep) ∧ es.length = len
 | .range lo len => ∃ hi, T.get src = some (.range lo hi) ∧ -1000000 < lo ∧ lo < 1000000 ∧ -1000000 < hi ∧ hi < 1000000 ∧ len = (hi - lo).toNat
section
variable {c : Cx} {T : Hp} {n d : Nat} {A : Around} {s : Shared} {ρ δ : Nat → Addr} {E : Value → Shared → Prop} {I : Addr} {src i : Nat} {ik : IK}
theorem next_item {x : AV} {Q : Option Value → Shared → Prop} (e : Turn T src i (some x) ik) (hr : HR c ρ δ T n s.heap) (it : ItAt s.heap I (ρ src) ik i)
  (nx : ∀ h' t' val, VR n ρ x val → Heap.SameBut I s.heap h' → ItAt h' I (ρ src) ik (i + 1) → Q (some val) (Sh s h' t')) : wpAny (model c.prog c.w) A (pyNext (.ref I)) Q E s := by
 cases ik with
 | list =>
  obtain ⟨xs, ho, e⟩ := e
  obtain ⟨vals, k, h1, h2⟩ := (hr.obj _ _ ho).2
  obtain ⟨y, q1, q2⟩ := h2.at e
  exact wpAny_pyNext_list_item it ⟨_, h1, rfl, k, rfl⟩ (by simpa using q1) fun h' z1 z2 => nx h' s.toks y q2 z2 z1
 | tuple =>
  obtain ⟨xs, ho, e⟩ := e
  obtain ⟨vals, k, h1, h2⟩ := (hr.obj _ _ ho).2
  obtain ⟨y, q1, q2⟩ := h2.at e
  exact wpAny_pyNext_tuple_item it ⟨_, h1, rfl, k, rfl⟩ (by simpa using q1) fun h' z1 z2 => nx h' s.toks y q2 z2 z1
 | dict len ep =>
  obtain ⟨es, ho, q2, e⟩ := e
  obtain ⟨_, ⟨kvs, h1, h2⟩ | ⟨kvs, h1, h2⟩⟩ := (hr.obj _ _ ho).2
  ·obtain ⟨k, y, z1, z2⟩ := h2.at e
   rw [h2.len] at q2; subst q2
   exact wpAny_pyNext_dict_item it h1 z1 fun key h' z3 z4 z5 => nx h' s.toks key (isS_of z2 z3 _ _) z5 z4
  ·obtain ⟨k, y, z1, z2⟩ := h2.at e
   rw [h2.len] at q2; subst q2
   exact wpAny_pyNext_dict_item it h1 z1 fun key h' z3 z4 z5 => nx h' s.toks key (isI_of z2 z3 _ _) z5 z4
 | range lo len =>
  rcases e with ⟨q, e⟩ | ⟨_, e⟩
  ·cases e
   refine wpAny_pyNext_range_item it (by omega) fun h' z1 z2 => nx h' _ _ ⟨_, rfl⟩ z2 ?_
   show IsRangeIter h' I (lo + ((i + 1 : Nat) : Int)) ((len : Int) - ((i + 1 : Nat) : Int)) 1
   rw [show lo + ((i + 1 : Nat) : Int) = lo + (i : Int) + 1 by omega, show (len : Int) - ((i + 1 : Nat) : Int) = (len : Int) - (i : Int) - 1 by omega]
   exact z1
  ·cases e
theorem next_end {Q : Option Value → Shared → Prop} (e : Turn T src i none ik) (hr : HR c ρ δ T n s.heap) (it : ItAt s.heap I (ρ src) ik i) (hh : A.handled = none)
  (nx : ∀ h', Heap.ExtBut I s.heap h' → Q none (Sh s h' s.toks)) : wpAny (model c.prog c.w) A (pyNext (.ref I)) Q E s := by
 cases ik with
 | list =>
  obtain ⟨xs, ho, e⟩ := e
  obtain ⟨vals, k, h1, h2⟩ := (hr.obj _ _ ho).2
  exact wpAny_pyNext_list_end hh it ⟨_, h1, rfl, k, rfl⟩ (by have := List.getElem?_eq_none_iff.mp e; rw [h2.len] at this; simpa using this) nx
 | tuple =>
  obtain ⟨xs, ho, e⟩ := e
  obtain ⟨vals, k, h1, h2⟩ := (hr.obj _ _ ho).2
  exact wpAny_pyNext_tuple_end hh it ⟨_, h1, rfl, k, rfl⟩ (by have := List.getElem?_eq_none_iff.mp e; rw [h2.len] at this; simpa using this) nx
 | dict len ep =>
  obtain ⟨es, ho, q2, e⟩ := e
  have e := List.getElem?_eq_none_iff.mp e
  rw [List.length_map] at e
  obtain ⟨_, ⟨kvs, h1, h2⟩ | ⟨kvs, h1, h2⟩⟩ := (hr.obj _ _ ho).2
  ·rw [h2.len] at q2 e; subst q2
   exact wpAny_pyNext_dict_end hh it h1 (List.getElem?_eq_none_iff.mpr e) nx
  ·rw [h2.len] at q2 e; subst q2
   exact wpAny_pyNext_dict_end hh it h1 (List.getElem?_eq_none_iff.mpr e) nx
 | range lo len =>
  rcases e with ⟨_, e⟩ | ⟨q, _⟩
  ·cases e
  ·exact wpAny_pyNext_range_end hh it (by omega) nx
theorem iter_snd {Q : Value → Shared → Prop} (e : IkOf T src ik) (hr : HR c ρ δ T n s.heap)
  (nx : ∀ o, o.isFreed = false → ItAt (s.heap.push o) s.heap.objs.size (ρ src) ik 0 → Q (.ref s.heap.objs.size) { s with heap := s.heap.push o }) : wpAny (model c.prog c.w) A (pyIter (.ref (ρ src))) Q E s := by
 cases ik with
 | list =>
  obtain ⟨xs, ho⟩ := e
  obtain ⟨vals, k, h1, h2⟩ := (hr.obj _ _ ho).2
  exact wpAny_pyIter_list ⟨_, h1, rfl, k, rfl⟩ (nx _ rfl ⟨_, Heap.get?_push_size _ rfl, rfl, rfl⟩)
 | tuple =>
  obtain ⟨xs, ho⟩ := e
  obtain ⟨vals, k, h1, h2⟩ := (hr.obj _ _ ho).2
  exact wpAny_pyIter_tuple ⟨_, h1, rfl, k, rfl⟩ (nx _ rfl ⟨_, Heap.get?_push_size _ rfl, rfl, rfl⟩)
 | dict len ep =>
  obtain ⟨es, ho, ql⟩ := e
  obtain ⟨hd, ⟨kvs, h1, h2⟩ | ⟨kvs, h1, h2⟩⟩ := (hr.obj _ _ ho).2
  ·refine wpAny_pyIter_dict hd h1 (nx _ rfl ⟨_, Heap.get?_push_size _ rfl, rfl, ?_⟩)
   rw [← ql, h2.len]; rfl
  ·refine wpAny_pyIter_dict hd h1 (nx _ rfl ⟨_, Heap.get?_push_size _ rfl, rfl, ?_⟩)
   rw [← ql, h2.len]; rfl
 | range lo len =>
  obtain ⟨hi, ho, q1, q2, q3, q4, ql⟩ := e
  obtain ⟨t1, t2, t3, h1⟩ := (hr.obj _ _ ho).2
  subst ql
  have sz : Builtin.Range.rangeSize lo hi 1 = (((hi - lo).toNat : Nat) : Int) := by
   unfold Builtin.Range.rangeSize
   rw [if_pos (by decide)]
   split <;> omega
  have b1 : (((hi - lo).toNat : Nat) : Int) ≤ 2000000 := by omega
  have b0 : (0 : Int) ≤ (((hi - lo).toNat : Nat) : Int) := Int.natCast_nonneg _
  refine wpAny_pyIter_range h1 ?_ (nx _ rfl ?_)
  ·unfold Builtin.Range.small Builtin.Range.rangeFitsLong
   rw [sz]
   generalize (((hi - lo).toNat : Nat) : Int) = z at b0 b1
   clear sz
   simp only [Bool.and_eq_true, Bool.or_eq_true, decide_eq_true_eq, beq_iff_eq]
   refine ⟨⟨⟨⟨⟨?_, ?_⟩, ?_, ?_⟩, ?_, ?_⟩, ?_, ?_⟩, .inr ?_⟩ <;> (try rw [if_pos (by decide)]) <;> (try simp only [Bool.and_eq_true, decide_eq_true_eq]) <;> omega
  ·show IsRangeIter _ _ (lo + ((0 : Nat) : Int)) ((((hi - lo).toNat : Nat) : Int) - ((0 : Nat) : Int)) 1
   rw [show lo + ((0 : Nat) : Int) = lo from Int.add_zero _, show (((hi - lo).toNat : Nat) : Int) - ((0 : Nat) : Int) = (((hi - lo).toNat : Nat) : Int) from Int.sub_zero _, ← sz]
   exact Heap.get?_push_size _ rfl
end
section
variable {prog : Program} {w : World} {A : Around} {s : Shared}
theorem for_step {R : Result → Shared → Prop} {target : PySem.Expr} {it : Value} {body : List Stmt} {env : Env}
  (h : wpAny (model prog w) A (pyNext it) (fun r s₁ => match r with
   | none => R (.ok .next) s₁
   | some v => wpAny (model prog w) A (letOwnedTupleGo target it v) (fun _ s₁' =>
     wpAny (model prog w) A (assign target env v) (fun _ s₂ => wpAny (model prog w) A (execs body env) (fun f s₃ => match f with
      | .next | .cont => codeAny (model prog w) A (.forLoop target it body [] env) R s₃
      | .brk => R (.ok .next) s₃
      | .ret v => R (.ok (.ret v)) s₃) (notedBy (model prog w) A env fun e s' => R (.error e) s') s₂) (notedBy (model prog w) A env fun e s' => R (.error e) s') s₁') (notedBy (model prog w) A env fun e s' => R (.error e) s') s₁) (notedBy (model prog w) A env fun e s' => R (.error e) s') s) :
  codeAny (model prog w) A (.forLoop target it body [] env) R s := by
 refine codeAny_of_tree ?_
 show wpAny _ A ((forTurn target it body [] env).onRaise (fun x => do noteFrame x env; theTreesLotGoes x)) _ _ s
 refine wpAny_noted ?_
 unfold forTurn
 refine wpAny_bind (wpAny_standAt (wpAny_bind (wpAny_onRaise (wpAny_mono h (fun r s₁ h₁ => ?_) fun _ _ h' => wpAny_standAt h'))))
 cases r with
 | none => exact wpAny_pure ⟨rfl, codeAny_block (wpAny_pure h₁)⟩
 | some v =>
  refine wpAny_bind (wpAny_mono h₁ (fun _ s₁' h₁' => ?_) fun _ _ h' => h')
  refine wpAny_bind (wpAny_mono h₁' (fun _ s₂ h₂ => wpAny_bind (wpAny_mono h₂ (fun f s₃ h₃ => ?_) fun _ _ h' => h')) fun _ _ h' => h')
  cases f with
  | next => exact wpAny_pure ⟨rfl, h₃⟩
  | cont => exact wpAny_pure ⟨rfl, h₃⟩
  | brk => exact wpAny_pure h₃
  | ret v => exact wpAny_pure h₃
theorem own_tuple {E : Value → Shared → Prop} {tg : PySem.Expr} {I : Addr} {v : Value} {Q : Unit → Shared → Prop} {o : Obj} {T : String} {vs : Array Value} (ho : s.heap.get? I = some o) (hc : o.cls = .type T) (hd : o.data = .fields vs)
  (hT : ["enumerate", "zip", "dict_itemiterator", "dict_reverseitemiterator", "odict_iterator", "itertools.zip_longest", "itertools.pairwise"].contains T = false) (h : Q () s) : wpAny (model prog w) A (letOwnedTupleGo tg (.ref I) v) Q E s := by
 have key : wpAny (model prog w) A (load I >>= fun o => match o.cls, o.data with
   | .type n, .fields vs => (match v with | .ref a => if ["enumerate", "zip", "dict_itemiterator", "dict_reverseitemiterator", "odict_iterator", "itertools.zip_longest", "itertools.pairwise"].contains n && vs[0]? == some (rawInt a) then (do rule "for.unpacks-the-owned-tuple"; updateField I 0 .none) else pure () | _ => pure ())
   | _, _ => pure ()) Q E s := by
  refine wpAny_bind (wpAny_load ho ?_)
  rw [hc, hd]
  dsimp only
  cases v <;> first
   | exact wpAny_pure h
   | (dsimp only; rw [if_neg (by rw [hT]; exact Bool.false_ne_true)]; exact wpAny_pure h)
 unfold letOwnedTupleGo
 cases tg <;> first | exact wpAny_pure h | (cases v <;> first | exact wpAny_pure h | exact key)
end
theorem ItAt.own {prog : Program} {w : World} {A : Around} {s : Shared} {E : Value → Shared → Prop} {tg : PySem.Expr} {I a : Addr} {ik : IK} {i : Nat} {v : Value} {Q : Unit → Shared → Prop} (it : ItAt s.heap I a ik i) (h : Q () s) : wpAny (model prog w) A (letOwnedTupleGo tg (.ref I) v) Q E s := by
 cases ik with
 | list => obtain ⟨o, h1, h2, h3⟩ := it; exact own_tuple h1 h2 h3 (by decide) h
 | tuple => obtain ⟨o, h1, h2, h3⟩ := it; exact own_tuple h1 h2 h3 (by decide) h
 | dict => obtain ⟨o, h1, h2, h3⟩ := it; exact own_tuple h1 h2 h3 (by decide) h
 | range => exact own_tuple it rfl rfl (by decide) h
theorem ItAt.obj {h : Heap} {I a : Addr} {ik : IK} {i : Nat} (it : ItAt h I a ik i) : ∃ o, h.get? I = some o ∧ (∀ es k, o.data ≠ .dict es k) ∧ ∀ h' : Heap, h'.get? I = some o → ItAt h' I a ik i := by
 cases ik with
 | list => obtain ⟨o, h1, h2, h3⟩ := it; exact ⟨o, h1, (fun _ _ q => by rw [h3] at q; cases q), fun _ e => ⟨o, e, h2, h3⟩⟩
 | tuple => obtain ⟨o, h1, h2, h3⟩ := it; exact ⟨o, h1, (fun _ _ q => by rw [h3] at q; cases q), fun _ e => ⟨o, e, h2, h3⟩⟩
 | dict => obtain ⟨o, h1, h2, h3⟩ := it; exact ⟨o, h1, (fun _ _ q => by rw [h3] at q; cases q), fun _ e => ⟨o, e, h2, h3⟩⟩
 | range => exact ⟨_, it, (fun _ _ q => by cases q), fun _ e => e⟩
theorem ItAt.go {c : Cx} {X : Addr → Prop} {ρ δ ρ' δ' : Nat → Addr} {n n' : Nat} {h h' : Heap} {I a : Addr} {ik : IK} {i : Nat} (it : ItAt h I a ik i) (g : Go c X ρ δ n h ρ' δ' n' h') (off : Off c ρ δ n I) (nx : ¬ X I) : ItAt h' I a ik i := by
 obtain ⟨o, h1, nd, k⟩ := it.obj
 exact k h' (g.exact h1 off nx nd)
theorem ItAt.live {h : Heap} {I a : Addr} {ik : IK} {i : Nat} (it : ItAt h I a ik i) : Live h I := by
 obtain ⟨o, h1, _⟩ := it.obj
 exact ⟨o, h1⟩
theorem ItAt.nodict {h : Heap} {I a : Addr} {ik : IK} {i : Nat} (it : ItAt h I a ik i) : ¬ Dl h I := by
 rintro ⟨o', es, k, e, r⟩
 obtain ⟨o, h1, nd, _⟩ := it.obj
 rw [h1] at e; cases e; exact nd es k r
theorem FR.of_ext {c : Cx} {ρ δ : Nat → Addr} {n : Nat} {h h' : Heap} {loc : Loc} {env : Env} {a : Addr} (f : FR c ρ δ n loc env h) (k : Heap.ExtBut a h h') (ne : ¬ Own env a) : FR c ρ δ n loc env h' := by
 have kc : ∀ {x b}, env.cells.lookup x = some b → b ≠ a := fun {x b} e z => ne (.inr ⟨x, z ▸ e⟩)
 refine ⟨f.kind, f.glo, f.bui, f.offL, f.hbL, fun x b e => ?_, f.hbC, f.inj, ?_, fun x v e q => ?_, fun x q => ?_⟩
 ·obtain ⟨z1, z2, o, z3⟩ := f.offC x b e
  exact ⟨z1, z2, o, k b o (kc e) z3⟩
 ·obtain ⟨m, ⟨o, es, ep, ho, r⟩, hv⟩ := f.ns
  exact ⟨m, ⟨o, es, ep, k _ o (fun z => ne (.inl z.symm)) ho, r⟩, hv⟩
 ·obtain ⟨b, val, z1, ⟨o, z2, z3⟩, z4⟩ := f.cel x v e q
  exact ⟨b, val, z1, ⟨o, k b o (kc z1) z2, z3⟩, z4⟩
 ·obtain ⟨b, v, z1, ⟨o, z2, z3⟩⟩ := f.celE x q
  exact ⟨b, v, z1, ⟨o, k b o (kc z1) z2, z3⟩⟩
theorem Go.iter {c : Cx} {X : Addr → Prop} {ρ0 δ0 ρ δ : Nat → Addr} {n0 n : Nat} {h0 h h' : Heap} {I : Addr} (g : Go c X ρ0 δ0 n0 h0 ρ δ n h) (k : Heap.ExtBut I h h') (d : h0.get? I = none) : Go c X ρ0 δ0 n0 h0 ρ δ n h' :=
 ⟨g.le, g.same, g.fresh, fun b o e x y => let ⟨sl, q, r⟩ := g.keep b o e x y; ⟨sl, k b _ (dead_ne ⟨o, e⟩ d) q, r⟩, fun b z => let ⟨o, e⟩ := g.live b z; ⟨o, k b o (dead_ne z d) e⟩, fun b z x => let ⟨o, es, i, e, r⟩ := g.dct b z x; ⟨o, es, i, k b o (dead_ne z.live d) e, r⟩⟩
noncomputable def Lo (c : Cx) (xs : List Nat) (src : Nat) (ik : IK) (i : Nat) (b : PSs) (d : Nat) (loc : Loc) (T : Hp) (f : Fl) (T' : Hp) : Prop :=
 ∀ (tg : PySem.Expr) (body : List Stmt) (env : Env) (A : Around) (s : Shared) (h1 : Heap) (t1 : Nat) (ρ0 δ0 ρ δ : Nat → Addr) (T0 : Hp) (I : Addr) (R : Result → Shared → Prop), MT env.kindOf xs tg → MSs b env.kindOf body → At c d loc T env A (Sh s h1 t1) ρ δ →
  Off c ρ δ T.n I → c.hb.get? I = none → ¬ Own env I → src < T.n → ItAt h1 I (ρ src) ik i → s.heap.get? I = none → Go c (Own env) ρ0 δ0 T0.n s.heap ρ δ T.n h1 →
  Kf c env s ρ0 δ0 T0 T' f (fun f s' => R (.ok f) s') → codeAny (model c.prog c.w) A (.forLoop tg (.ref I) body [] env) R (Sh s h1 t1)
section
variable {c : Cx} {xs : List Nat} {src i d : Nat} {ik : IK} {b : PSs} {loc loc1 loc2 : Loc} {T T1 T2 : Hp} {f : Fl} {v x : AV} {it : PE}
theorem L_end (e : Turn T src i none ik) : Lo c xs src ik i b d loc T (.nxt loc) T := by
 intro tg body env A s h1 t1 ρ0 δ0 ρ δ T0 I R mt mb a off hbI nOwn hs it dead g ct
 refine for_step (next_end (s := Sh s h1 t1) e a.hr it a.ro.2.2 fun h2 eb => ?_)
 exact ct ρ δ h2 t1 (g.iter eb dead) (a.hr.of_ext eb off hbI) (a.fr.of_ext eb nOwn)
theorem lo_turn {g : Fl} {tg : PySem.Expr} {body : List Stmt} {env : Env} {A : Around} {s : Shared} {h1 : Heap} {t1 : Nat} {ρ0 δ0 ρ δ : Nat → Addr} {n0 : Nat} {I : Addr} {R : Result → Shared → Prop} (e : Turn T src i (some x) ik) (eb : BindTo T xs x loc loc1) (eX : Ex c b d loc1 T g T1) (mt : MT env.kindOf xs tg) (mb : MSs b env.kindOf body) (a : At c d loc T env A (Sh s h1 t1) ρ δ)
  (off : Off c ρ δ T.n I) (hbI : c.hb.get? I = none) (nOwn : ¬ Own env I) (it : ItAt h1 I (ρ src) ik i) (dead : s.heap.get? I = none) (gg : Go c (Own env) ρ0 δ0 n0 s.heap ρ δ T.n h1)
  (k : ∀ h3 t3, (∃ e l, Fm c ρ δ T.n A h3 (e :: l) ∧ e.frame = env.frame) → ItAt h3 I (ρ src) ik (i + 1) → Go c (Own env) ρ0 δ0 n0 s.heap ρ δ T.n h3 → Kf c env (Sh s h3 t3) ρ δ T T1 g (fun f s₃ => match f with | .next | .cont => codeAny (model c.prog c.w) A (.forLoop tg (.ref I) body [] env) R s₃ | .brk => R (.ok .next) s₃ | .ret v => R (.ok (.ret v)) s₃)) :
  codeAny (model c.prog c.w) A (.forLoop tg (.ref I) body [] env) R (Sh s h1 t1) := by
 refine for_step (next_item (s := Sh s h1 t1) e a.hr it fun h2 t2 val vr sb it2 => ?_)
 have hr2 : HR c ρ δ T T.n h2 := a.hr.of_ext sb.extBut off hbI
 have fr2 : FR c ρ δ T.n loc env h2 := a.fr.of_ext sb.extBut nOwn
 refine ItAt.own (s := Sh s h2 t2) it2 ?_
 refine bind_snd (s := Sh s h2 t2) eb mt fr2 hr2 a.ro vr fun h3 t3 g3 hr3 fr3 => ?_
 have f3 : ∃ e l, Fm c ρ δ T.n A h3 (e :: l) ∧ e.frame = env.frame := let ⟨e, l, f, q⟩ := a.fm; ⟨e, l, (f.ext sb.extBut it.nodict).go g3, q⟩
 exact eX body env A (Sh s h3 t3) ρ δ _ _ mb ⟨fr3, hr3, a.ro, f3⟩ (k h3 t3 f3 (it2.go g3 off nOwn) ((gg.iter sb.extBut dead).trans g3))
theorem L_next (e : Turn T src i (some x) ik) (eb : BindTo T xs x loc loc1) (eX : Ex c b d loc1 T (.nxt loc2) T1) (e2 : Lo c xs src ik (i + 1) b d loc2 T1 f T2) : Lo c xs src ik i b d loc T f T2 := by
 intro tg body env A s h1 t1 ρ0 δ0 ρ δ T0 I R mt mb a off hbI nOwn hs it dead g ct
 refine lo_turn e eb eX mt mb a off hbI nOwn it dead g fun h3 t3 f3 it3 g3 ρ' δ' h4 t4 g4 hr4 fr4 => ?_
 refine e2 tg body env A s h4 t4 ρ0 δ0 ρ' δ' T0 I R mt mb ⟨fr4, hr4, a.ro, let ⟨e, l, f, q⟩ := f3; ⟨e, l, f.go g4, q⟩⟩ (g4.off off it3.live) hbI nOwn (Nat.lt_of_lt_of_le hs g4.le) ?_ dead (g3.trans g4) ct
 rw [(g4.same src hs).1]
 exact it3.go g4 off nOwn
theorem L_ret (e : Turn T src i (some x) ik) (eb : BindTo T xs x loc loc1) (eX : Ex c b d loc1 T (.ret v) T1) : Lo c xs src ik i b d loc T (.ret v) T1 := by
 intro tg body env A s h1 t1 ρ0 δ0 ρ δ T0 I R mt mb a off hbI nOwn hs it dead g ct
 exact lo_turn e eb eX mt mb a off hbI nOwn it dead g fun h3 t3 f3 it3 g3 ρ' δ' h4 t4 val g4 hr4 vr4 => ct ρ' δ' h4 t4 val (g3.trans g4) hr4 vr4
theorem R_for {r : Nat} (e1 : Ev c it d loc T (.ref r) T1) (hk : IkOf T1 r ik) (e2 : Lo c xs r ik 0 b d loc T1 f T2) : St c (.for1 xs it b) d loc T f T2 := by
 rintro _ env A s ρ δ Q E ⟨tg, it', body, p, rfl, mt, me, ns, mb⟩ a ct
 refine wpAny_For (e1 _ env A s ρ δ _ E me a fun ρ1 δ1 h' t1 va g1 hr1 vr1 => ?_) (fun x => fold_no ns x)
 rw [vr1.2]
 have fr1 := a.fr.go g1
 refine iter_snd (s := Sh s h' t1) hk hr1 fun ob hf ia => ?_
 have dead : h'.get? h'.objs.size = none := dead_end _ (Nat.le_refl _)
 have kp : ∀ b o, h'.get? b = some o → (h'.push ob).get? b = some o := fun b o e => Heap.get?_push_of_some _ e
 have nOwn : ¬ Own env h'.objs.size := by
  rintro (z | ⟨x, z⟩)
  ·obtain ⟨m, q, _⟩ := fr1.ns
   exact dead_ne (live_ns q) dead z.symm
  ·exact dead_ne (fr1.offC x _ z).2.2 dead rfl
 exact e2 tg body env A (Sh s h' t1) (h'.push ob) t1 ρ1 δ1 ρ1 δ1 T1 h'.objs.size _ mt mb ⟨fr1.go (Go.of_keeps (X := No) kp), hr1.of_keeps kp, a.ro, a.fgo (g1.trans (Go.of_keeps (X := No) kp))⟩ (hr1.offNew (s := Sh s h' t1) dead) (hr1.dead (s := Sh s h' t1) dead) nOwn vr1.1 ia dead (Go.of_keeps kp) (Kf.go ct g1.any)
end
end Mine
end
section
open PySem PySem.W PyProof.Rows
namespace Mine
theorem szl {n : Nat} (h : n < 4000) : n ≤ sizeLine := by unfold sizeLine; omega
noncomputable def keq : AV → AV → Bool
 | .str a, .str b => decide (a = b)
 | .int a, .int b => decide (a = b)
 | _, _ => false
noncomputable def dlk (k : AV) : List (AV × AV) → Option AV
 | [] => none
 | e :: r => if keq e.1 k = true then some e.2 else dlk k r
noncomputable def dpt (k v : AV) : List (AV × AV) → List (AV × AV)
 | [] => [(k, v)]
 | e :: r => if keq e.1 k = true then (e.1, v) :: r else e :: dpt k v r
noncomputable def kOk : AV → List (AV × AV) → Bool
 | .str _, [] => true
 | .int _, [] => true
 | .str _, (.str _, _) :: _ => true
 | .int _, (.int _, _) :: _ => true
 | _, _ => false
noncomputable def epS (k : AV) (es : List (AV × AV)) (ep : Nat) : Nat := match dlk k es with | some _ => ep | none => ep + 1
structure KK {K : Type} (is : AV → K → Prop) : Prop where
 eq : ∀ {x k : AV} {a b : K}, is x a → is k b → (keq x k = true ↔ a = b)
theorem kkS : KK isS := ⟨fun {x k a b} h1 h2 => by
 cases x <;> first | exact h1.elim | skip
 cases k <;> first | exact h2.elim | skip
 cases h1; cases h2
 show decide _ = true ↔ _
 rw [decide_eq_true_eq]
 exact ⟨fun h => by rw [h], fun h => S_inj h⟩⟩
theorem kkI : KK isI := ⟨fun {x k a b} h1 h2 => by
 cases x <;> first | exact h1.elim | skip
 cases k <;> first | exact h2.elim | skip
 cases h1; cases h2
 show decide _ = true ↔ _
 rw [decide_eq_true_eq]⟩
section
variable {K : Type} [DecidableEq K] {is : AV → K → Prop} (kk : KK is) {n : Nat} {ρ : Nat → Addr} {k v : AV} {b : K} {val : Value} (hk : is k b)
include kk hk
theorem KR.look {es : List (AV × AV)} {kvs : List (K × Value)} (h : KR n ρ is es kvs) : (∀ y, dlk k es = some y → ∃ u, valueAt kvs b = some u ∧ VR n ρ y u) ∧ (dlk k es = none → valueAt kvs b = none) := by
 induction es generalizing kvs with
 | nil => cases kvs with
  | nil => exact ⟨fun y h => (by cases h), fun _ => rfl⟩
  | cons => exact h.elim
 | cons x es ih => cases kvs with
  | nil => exact h.elim
  | cons y kvs =>
   obtain ⟨i1, i2⟩ := ih h.2.2
   have e := kk.eq h.1 hk
   show (∀ z, (if keq x.1 k = true then some x.2 else dlk k es) = some z → _) ∧ ((if keq x.1 k = true then some x.2 else dlk k es) = none → _)
   by_cases q : y.1 = b
   ·rw [if_pos (e.mpr q)]
    refine ⟨fun w hw => ?_, fun hw => by cases hw⟩
    cases hw
    exact ⟨y.2, by simp [valueAt, q], h.2.1⟩
   ·rw [if_neg fun z => q (e.mp z)]
    have : valueAt (y :: kvs) b = valueAt kvs b := by simp [valueAt, q]
    rw [this]
    exact ⟨i1, i2⟩
theorem KR.put (hv : VR n ρ v val) {es : List (AV × AV)} {kvs : List (K × Value)} (h : KR n ρ is es kvs) (nd : (kvs.map (·.1)).Nodup) : KR n ρ is (dpt k v es) (stored kvs b val) := by
 induction es generalizing kvs with
 | nil => cases kvs with
  | nil => exact ⟨hk, hv, trivial⟩
  | cons => exact h.elim
 | cons x es ih => cases kvs with
  | nil => exact h.elim
  | cons y kvs =>
   obtain ⟨a, u⟩ := y
   rw [List.map_cons, List.nodup_cons] at nd
   have e := kk.eq h.1 hk
   show KR n ρ is (if keq x.1 k = true then (x.1, v) :: es else x :: dpt k v es) _
   by_cases q : a = b
   ·subst q
    rw [if_pos (e.mpr rfl)]
    have : stored ((a, u) :: kvs) a val = (a, val) :: kvs := by
     unfold stored
     rw [if_pos (by simp), List.map_cons, if_pos rfl, map_store_of_not_mem kvs _ val nd.1]
    rw [this]
    exact ⟨h.1, hv, h.2.2⟩
   ·rw [if_neg fun z => q (e.mp z)]
    have : stored ((a, u) :: kvs) b val = (a, u) :: stored kvs b val := by
     unfold stored
     simp only [List.any_cons, decide_eq_false q, Bool.false_or, List.map_cons, if_neg q]
     split <;> rfl
    rw [this]
    exact ⟨h.1, h.2.1, ih h.2.2 nd.2⟩
end
section
variable {prog : Program} {w : World} {A : Around} {E : Value → Shared → Prop} {s : Shared} {K : Type} [DecidableEq K] {knd : KeyKind prog w K}
theorem dictSet_at {d : Addr} {kvs : List (K × Value)} {ep : Nat} {k : K} {key v : Value} {Q : Unit → Shared → Prop} (hkey : knd.is k key = true) (hm : s.heap.DictAt knd d kvs ep) (hsz : kvs.length ≤ sizeLine)
  (hQ : ∀ h', h'.DictAt knd d (stored kvs k v) (match valueAt kvs k with | some _ => ep | none => ep + 1) → Heap.SameBut d s.heap h' → Q () { s with heap := h', toks := s.toks + 1 }) :
  wpAny (model prog w) A (dictSet d key v) Q E s := by
 obtain ⟨o, es, ho, hc, hd, hk, hp, hn⟩ := hm
 have hes : es.size ≤ sizeLine := by
  have e1 := hp.length
  have e2 : es.toList.length = es.size := by simp
  omega
 have hva : (es.toList.find? fun e => knd.is k e.key).map (·.val) = valueAt kvs k := hp.find k
 unfold dictSet
 try with_reducible refine wpAny_holding ?_
 refine wpAny_bind (knd.pyHash hkey ?_)
 unfold dictSetHashed
 try with_reducible refine wpAny_holding ?_
 refine wpAny_bind (wpAny_dictFind_of (s := { s with toks := s.toks + 1 }) hkey ho hd hk ?_)
 have hidx : (es.findIdx? fun e => knd.is k e.key) = kvs.findIdx? fun kv => decide (kv.1 = k) := by
  rw [← hp.findIdx k]; obtain ⟨l⟩ := es; simp
 cases hi : es.findIdx? fun e => knd.is k e.key with
 | some i =>
  have hl : (es.toList.findIdx? fun e => knd.is k e.key) = some i := by rw [← hi]; obtain ⟨l⟩ := es; simp
  have hv : ∃ u, valueAt kvs k = some u := by
   obtain ⟨e, _, _, q⟩ := hp.at hl
   exact ⟨_, q⟩
  obtain ⟨u, hu⟩ := hv
  rw [hu] at hQ
  refine wpAny_bind (wpAny_rule (wpAny_bind (wpAny_updateDict (s := { s with toks := s.toks + 1 }) ho hd (wpAny_point (hQ _ ⟨_, _, Heap.get?_update_self _ ho (Obj.isFreed_of_dict (Obj.data_mapDict hd _)),
   hc.mapDict _, Obj.data_mapDict hd _, hk.modify _ _, ?_, ?_⟩ (Heap.SameBut.update ..))))))
  ·rw [stored, if_pos (any_of_findIdx_some (hidx ▸ hi))]
   have := hp.modify hn hl v
   obtain ⟨l⟩ := es
   simpa using this
  ·rw [stored, if_pos (any_of_findIdx_some (hidx ▸ hi)), keys_map_store]; exact hn
 | none =>
  have hnot : k ∉ kvs.map (·.1) := not_mem_of_findIdx_none (hidx ▸ hi)
  have hany : ¬ (kvs.any fun kv => decide (kv.1 = k)) = true := by
   rw [List.any_eq_true]; rintro ⟨kv, hkv, he⟩
   exact hnot (List.mem_map.mpr ⟨kv, hkv, of_decide_eq_true he⟩)
  have hv : valueAt kvs k = none := by
   unfold valueAt
   rw [Option.map_eq_none_iff, List.find?_eq_none]
   intro kv hkv he
   exact hnot (List.mem_map.mpr ⟨kv, hkv, of_decide_eq_true he⟩)
  rw [hv] at hQ
  refine wpAny_bind (wpAny_rule (wpAny_updateDictKeys (hz := hes) (s := { s with toks := s.toks + 1 }) ho hd (hQ _ ⟨_, _, Heap.get?_update_self _ ho (Obj.isFreed_of_dict (Obj.data_mapDictKeys hd _)),
   hc.mapDictKeys _, Obj.data_mapDictKeys hd _, hk.push hkey _, ?_, ?_⟩ (Heap.SameBut.update ..))))
  ·rw [stored, if_neg hany]
   have := hp.append hkey (knd.hash k) v
   obtain ⟨l⟩ := es
   simpa using this
  ·rw [stored, if_neg hany, List.map_append, List.nodup_append]
   refine ⟨hn, by simp, ?_⟩
   intro a ha b hb
   simp only [List.map_cons, List.map_nil, List.mem_singleton] at hb
   subst hb
   exact fun e => hnot (e ▸ ha)
theorem setItem_at {d : Addr} {kvs : List (K × Value)} {ep : Nat} {k : K} {key v : Value} {Q : Unit → Shared → Prop} (hkey : knd.is k key = true) (hm : s.heap.DictAt knd d kvs ep) (hsz : kvs.length ≤ sizeLine)
  (hQ : ∀ h', h'.DictAt knd d (stored kvs k v) (match valueAt kvs k with | some _ => ep | none => ep + 1) → Heap.SameBut d s.heap h' → Q () { s with heap := h', toks := s.toks + 1 }) :
  wpAny (model prog w) A (setItem (.ref d) key v) Q E s := by
 have hT := hm.dictOf.typeIs (s := s)
 unfold setItem
 try with_reducible refine wpAny_holding ?_
 refine wpAny_bind (wpAny_sequenceKey hT (by decide) ?_)
 refine wpAny_bind (wpAny_callSpecial?_slot (name := Str.ofString "__setitem__") hT slot_dict_setitem
  (wpAny_call_entry slot_dict_setitem hT entry_dict_setitem ?_ (args_dict_setitem _ _ _)))
 show wpAny _ _ (Builtin.Dict.notOrdered "__setitem__" ⟨[.ref d, key, v], []⟩ >>= _) _ _ s
 refine wpAny_bind (wpAny_notOrdered_dict hT ?_)
 show wpAny _ _ (dictSet d key v >>= _) _ _ s
 exact wpAny_bind (dictSet_at hkey hm hsz fun h' hm' hs' => wpAny_pure ⟨.none, rfl, wpAny_pure (hQ h' hm' hs')⟩)
theorem DictAt.empty {K' : Type} [DecidableEq K'] {knd' : KeyKind prog w K'} {h : Heap} {a : Addr} {ep : Nat} (x : h.DictAt knd a [] ep) : h.DictAt knd' a [] ep := by
 obtain ⟨o, es, ho, hc, hd, hk, hp, hn⟩ := x
 have : es.toList = [] := by cases q : es.toList with
  | nil => rfl
  | cons e l => rw [q] at hp; cases hp
 have : es = #[] := by cases es; simp at this; subst this; rfl
 subst this
 exact ⟨o, #[], ho, hc, hd, fun _ he => by simp at he, Pairs.nil, List.nodup_nil⟩
end
section
variable {c : Cx} {ρ δ : Nat → Addr} {n : Nat} {h h' : Heap} {T : Hp} {ao : AO}
theorem DR.key {P : Prop} {a : Addr} {es : List (AV × AV)} {ep : Nat} {k : AV} {key : Value} (x : DR c n ρ h a es ep) (ok : kOk k es = true) (vk : VR n ρ k key)
  (f : ∀ {K : Type} [DecidableEq K] {knd : KeyKind c.prog c.w K} {is : AV → K → Prop} (kk : KK is) {kvs : List (K × Value)} {b : K}, h.DictAt knd a kvs ep → KR n ρ is es kvs → is k b → knd.is b key = true →
   (∀ {es' kvs' h' ρ' n' ep'}, Heap.DictAt knd h' a kvs' ep' → KR n' ρ' is es' kvs' → DR c n' ρ' h' a es' ep') → P) : P := by
 obtain ⟨x0, x⟩ := x
 cases k <;> first
  | exact Bool.noConfusion (show false = true from ok)
  | skip
 ·rename_i i
  obtain ⟨t, rfl⟩ := vk
  rcases x with ⟨kvs, h1, h2⟩ | ⟨kvs, h1, h2⟩
  ·have : es = [] := by
    cases es with
    | nil => rfl
    | cons e l =>
     obtain ⟨y, v⟩ := e
     cases kvs with
     | nil => exact h2.elim
     | cons q r =>
      have := h2.1
      cases y <;> first | exact this.elim | exact Bool.noConfusion (show false = true from ok)
   subst this
   cases kvs with
   | cons => exact h2.elim
   | nil => exact f (knd := intKind c.prog c.w) kkI (b := i) (DictAt.empty h1) (show KR n ρ isI [] [] from trivial) rfl (by simp [intKind, Value.isInt]) fun z1 z2 => ⟨x0, .inr ⟨_, z1, z2⟩⟩
  ·exact f (knd := intKind c.prog c.w) kkI (b := i) h1 h2 rfl (by simp [intKind, Value.isInt]) fun z1 z2 => ⟨x0, .inr ⟨_, z1, z2⟩⟩
 ·rename_i i
  obtain ⟨t, rfl⟩ := vk
  rcases x with ⟨kvs, h1, h2⟩ | ⟨kvs, h1, h2⟩
  ·exact f (knd := strKind c.prog c.w) kkS (b := S i) h1 h2 rfl (by simp [PySem.strKind, Value.isStrOf]) fun z1 z2 => ⟨x0, .inl ⟨_, z1, z2⟩⟩
  ·have : es = [] := by
    cases es with
    | nil => rfl
    | cons e l =>
     obtain ⟨y, v⟩ := e
     cases kvs with
     | nil => exact h2.elim
     | cons q r =>
      have := h2.1
      cases y <;> first | exact this.elim | exact Bool.noConfusion (show false = true from ok)
   subst this
   cases kvs with
   | cons => exact h2.elim
   | nil => exact f (knd := strKind c.prog c.w) kkS (b := S i) (DictAt.empty h1) (show KR n ρ isS [] [] from trivial) rfl (by simp [PySem.strKind, Value.isStrOf]) fun z1 z2 => ⟨x0, .inl ⟨_, z1, z2⟩⟩
theorem HR.turn1 {X : Addr → Prop} {r : Nat} (hr : HR c ρ δ T T.n h) (ro : 1 ≤ r) (lt : r < T.n) (sb : Heap.ExtBut (ρ r) h h') (lr : Live h' (ρ r)) (or : OR c T.n ρ h' (ρ r) (δ r) ao) :
  HR c ρ δ (hput T r ao) T.n h' ∧ Go c X ρ δ T.n h ρ δ T.n h' := by
 refine hr.turn ro lt (fun j => get_hput T ao r j lt) (fun b o q _ z => sb b o q z) lr ?_ or
 by_cases q : δ r = ρ r
 ·rw [q]; exact lr
 ·obtain ⟨o, z⟩ := (hr.liv r lt).2; exact ⟨o, sb _ o q z⟩
theorem DR.live {a : Addr} {es : List (AV × AV)} {ep : Nat} (x : DR c n ρ h a es ep) : Live h a := by
 obtain ⟨_, ⟨_, ⟨o, _, q, _⟩, _⟩ | ⟨_, ⟨o, _, q, _⟩, _⟩⟩ := x <;> exact ⟨o, q⟩
theorem DR.set {A : Around} {s : Shared} {E : Value → Shared → Prop} {a : Addr} {es : List (AV × AV)} {ep : Nat} {k v : AV} {key val : Value} {Q : Unit → Shared → Prop} (x : DR c n ρ s.heap a es ep) (q1 : kOk k es = true) (q2 : es.length < 4000) (vk : VR n ρ k key) (vv : VR n ρ v val)
  (nx : ∀ h' t', DR c n ρ h' a (dpt k v es) (epS k es ep) → Heap.SameBut a s.heap h' → Q () (Sh s h' t')) : wpAny (model c.prog c.w) A (setItem (.ref a) key val) Q E s ∧ wpAny (model c.prog c.w) A (dictSet a key val) Q E s := by
 refine DR.key x q1 vk fun {K _ knd is} kk {kvs b} hd hk hb hkey back => ?_
 have fin : ∀ h', h'.DictAt knd a (stored kvs b val) (match valueAt kvs b with | some _ => ep | none => ep + 1) → Heap.SameBut a s.heap h' → Q () { s with heap := h', toks := s.toks + 1 } := fun h' z1 z2 => by
  refine nx h' _ (back ?_ (KR.put kk hb vv hk hd.nodup)) z2
  have L := KR.look kk hb hk
  unfold epS
  cases q : dlk k es with
  | none => rw [L.2 q] at z1; exact z1
  | some y => obtain ⟨u, z3, _⟩ := L.1 y q; rw [z3] at z1; exact z1
 rw [hk.len] at q2
 have q3 : kvs.length ≤ sizeLine := szl q2
 exact ⟨setItem_at hkey hd q3 fin, dictSet_at hkey hd q3 fin⟩
end
section
variable {prog : Program} {w : World} {A : Around} {s : Shared} {env : Env} {Q E : Value → Shared → Prop}
theorem wp_Subscript {value slice : PySem.Expr} {pos : Pos} (hs : ∀ b o i, subscripted slice b o i = (match b with | true => runValue (.builtin "lifetime.subscript" ⟨[o, i], []⟩) | false => operate [o, i] (getItem o i)))
  (h : wpAny (model prog w) A (eval value env) (fun o s₁ => wpAny (model prog w) A (eval slice env) (fun i s₂ => ∃ T id, typeLookup (.type T) "__getitem__" = pure (some (.builtin id)) ∧ s₂.TypeIs o T ∧ wpAny (model prog w) A (getItem o i) Q E s₂) E s₁) E s) :
  wpAny (model prog w) A (eval (.Subscript value slice pos) env) Q E s := by
 rw [eval_Subscript]
 refine wpAny_bind (wpAny_mono h (fun o s₁ h₁ => wpAny_bind (wpAny_holding (wpAny_mono h₁ (fun i s₂ h₂ => wpAny_bind (wpAny_standAt ?_)) fun _ _ x => x))) fun _ _ x => x)
 obtain ⟨T, id, hl, hT, hg⟩ := h₂
 refine wpAny_bind ?_
 rw [getitemInPython_of_ne hT.not_modules]
 refine wpAny_bind (wpAny_specialOf hT hl ?_)
 have fin : wpAny (model prog w) A (subscripted slice false o i >>= fun r => letTemporaryGo value o r >>= fun _ => pure r) Q E s₂ := by
  rw [hs]
  exact wpAny_bind (wpAny_operating (wpAny_mono hg (fun r s₃ h₃ => wpAny_bind (wpAny_letTemporaryGo (wpAny_pure h₃))) fun _ _ x => x))
 first
  | exact wpAny_pure fin
  | exact fin
end
noncomputable def It (c : Cx) (o i : AV) (T : Hp) (v : AV) : Prop :=
 ∀ (A : Around) (s : Shared) (ρ δ : Nat → Addr) (vo vi : Value) (Q E : Value → Shared → Prop), HR c ρ δ T T.n s.heap → VR T.n ρ o vo → VR T.n ρ i vi → (∀ val t', VR T.n ρ v val → Q val (Sh s s.heap t')) →
  ∃ Ty id, typeLookup (.type Ty) "__getitem__" = pure (some (.builtin id)) ∧ s.TypeIs vo Ty ∧ wpAny (model c.prog c.w) A (getItem vo vi) Q E s
section
variable {c : Cx} {d : Nat} {loc : Loc} {T T1 T2 T3 : Hp} {v a b k : AV} {e o i : PE} {r j ep : Nat} {xs : List AV} {es : List (AV × AV)}
theorem I_list (ho : T.get r = some (.list xs)) (hj : xs[j]? = some v) (lt : j < 1000000) : It c (.ref r) (.int (j : Int)) T v := by
 intro A s ρ δ vo vi Q E hr ro ri h
 obtain ⟨vs, kk, h1, h2⟩ := (hr.obj _ _ ho).2
 obtain ⟨t, rfl⟩ := ri
 obtain ⟨y, q1, q2⟩ := h2.at hj
 have hl : s.heap.IsList (ρ r) vs.toArray := ⟨_, h1, rfl, kk, rfl⟩
 rw [ro.2]
 exact ⟨"list", _, slot_list_getitem.lookup, hl.typeIs, wpAny_getItem_list hl (by omega) (by omega) (by rw [Int.toNat_natCast]; simpa using q1) (h y s.toks q2)⟩
theorem I_last (ho : T.get r = some (.list xs)) (hj : xs.getLast? = some v) : It c (.ref r) (.int (-1)) T v := by
 intro A s ρ δ vo vi Q E hr ro ri h
 obtain ⟨vs, kk, h1, h2⟩ := (hr.obj _ _ ho).2
 obtain ⟨t, rfl⟩ := ri
 rw [List.getLast?_eq_getElem?] at hj
 have hp : xs.length - 1 < xs.length := (List.getElem?_eq_some_iff.mp hj).1
 obtain ⟨y, q1, q2⟩ := h2.at hj
 have hl : s.heap.IsList (ρ r) vs.toArray := ⟨_, h1, rfl, kk, rfl⟩
 have e : xs.length = vs.length := h2.len
 rw [ro.2]
 refine ⟨"list", _, slot_list_getitem.lookup, hl.typeIs, wpAny_getItem_list_neg hl (by decide) (by simp; omega) (by decide) ?_ (h y s.toks q2)⟩
 rw [List.size_toArray, ← e, show (-1 + (xs.length : Int)).toNat = xs.length - 1 by omega]
 simpa using q1
theorem I_tuple (ho : T.get r = some (.tuple xs)) (hj : xs[j]? = some v) (lt : j < 1000000) : It c (.ref r) (.int (j : Int)) T v := by
 intro A s ρ δ vo vi Q E hr ro ri h
 obtain ⟨vs, kk, h1, h2⟩ := (hr.obj _ _ ho).2
 obtain ⟨t, rfl⟩ := ri
 obtain ⟨y, q1, q2⟩ := h2.at hj
 have hl : j < vs.length := by rw [← h2.len]; exact (List.getElem?_eq_some_iff.mp hj).1
 have ht : s.heap.IsTuple (ρ r) vs.toArray := ⟨_, h1, rfl, kk, rfl⟩
 rw [ro.2]
 refine ⟨"tuple", _, F.slot_tuple_getitem.lookup, ht.typeIs, PyProof.Rows.getItem_tuple (ht : PyProof.Rows.IsTup s.heap (ρ r) vs.toArray) (by omega) (by omega) (j := j) ?_ (by simpa using q1) (h y s.toks q2)⟩
 unfold seqIndex?
 simp only [show ¬ ((j : Int) < 0) by omega, if_false]
 rw [if_pos (by simp only [Bool.and_eq_true, decide_eq_true_eq, List.size_toArray]; omega)]
 simp
theorem I_dict (ho : T.get r = some (.dict es ep)) (hk : kOk k es = true) (hl : dlk k es = some v) : It c (.ref r) k T v := by
 intro A s ρ δ vo vi Q E hr ro ri h
 rw [ro.2]
 refine DR.key (hr.obj _ _ ho).2 hk ri fun {K _ knd is} kk {kvs b} hd hk hb hkey back => ?_
 obtain ⟨u, q1, q2⟩ := (KR.look kk hb hk).1 v hl
 exact ⟨"dict", _, slot_dict_getitem.lookup, hd.dictOf.typeIs, wpAny_getItem_of hkey hd.dictOf.mapOf q1 (h u _ q2)⟩
theorem R_sub (e1 : Ev c o d loc T a T1) (e2 : Ev c i d loc T1 b T2) (hi : It c a b T2 v) : Ev c (.sub o i) d loc T v T2 := by
 rintro _ env A s ρ δ Q E ⟨o', i', p, rfl, mo, mi, nsl⟩ at' ct
 refine wp_Subscript (by intro b o i; cases i' <;> cases b <;> first | rfl | cases nsl) (e1 _ env A s ρ δ _ E mo at' fun ρ1 δ1 h1 t1 va g1 hr1 vr1 => ?_)
 refine e2 _ env A (Sh s h1 t1) ρ1 δ1 _ E mi (at'.go g1 hr1) fun ρ2 δ2 h2 t2 vb g2 hr2 vr2 => ?_
 exact hi A (Sh s h2 t2) ρ2 δ2 va vb Q E hr2 (g2.vr vr1) vr2 fun val t' vr => ct ρ2 δ2 h2 t' val (g1.trans g2) hr2 vr
theorem R_asgS (e1 : Ev c e d loc T v T1) (e2 : Ev c o d loc T1 (.ref r) T2) (e3 : Ev c i d loc T2 k T3) (ho : T3.get r = some (.dict es ep)) (hk : kOk k es = true) (hl : es.length < 4000) (hro : 1 ≤ r) : St c (.asgS o i e) d loc T (.nxt loc) (hput T3 r (.dict (dpt k v es) (epS k es ep))) := by
 rintro _ env A s ρ δ Q E ⟨o', i', sp, e', p, rfl, mo, mi, me, nc⟩ a ct
 refine wpAny_Assign_Subscript (e1 _ env A s ρ δ _ E me a fun ρ1 δ1 h1 t1 va g1 hr1 vr1 => ?_) (swaps_no nc)
 have a1 := At.go (t' := t1) a g1 hr1
 refine e2 _ env A (Sh s h1 t1) ρ1 δ1 _ E mo a1 fun ρ2 δ2 h2 t2 vo g2 hr2 vr2 => ?_
 have a2 := At.go (t' := t2) a1 g2 hr2
 refine e3 _ env A (Sh s h2 t2) ρ2 δ2 _ E mi a2 fun ρ3 δ3 h3 t3 vi g3 hr3 vr3 => ?_
 obtain ⟨lt, q⟩ := g3.vr (a := .ref r) vr2
 rw [q]
 refine (DR.set (s := Sh s h3 t3) (hr3.obj _ _ ho).2 hk hl vr3 (g3.vr (g2.vr vr1)) fun h4 t4 x' sb => ?_).1
 obtain ⟨hr4, g4⟩ := hr3.turn1 (ao := .dict (dpt k v es) (epS k es ep)) (X := No) hro lt sb.extBut x'.live x'
 exact ct ρ3 δ3 h4 t4 (g1.trans (g2.trans (g3.trans g4))).any hr4 ((a2.fr.go g3).go g4)
end
end Mine
end
section
open PySem PySem.W PyProof.Rows
namespace Mine
noncomputable def fil : List (AV × AV) → List (AV × AV) → Nat → AO
 | [], es, ep => .dict es ep
 | p :: r, es, ep => fil r (dpt p.1 p.2 es) (epS p.1 es ep)
noncomputable def filOk : List (AV × AV) → List (AV × AV) → Bool
 | [], _ => true
 | p :: r, es => kOk p.1 es && Nat.blt es.length 4000 && filOk r (dpt p.1 p.2 es)
noncomputable def PR (n : Nat) (ρ : Nat → Addr) : List (AV × AV) → List (Value × Value) → Prop
 | [], [] => True
 | p :: r, q :: l => VR n ρ p.1 q.1 ∧ VR n ρ p.2 q.2 ∧ PR n ρ r l
 | _, _ => False
noncomputable def Pv (c : Cx) (l : PEs) (d : Nat) (loc : Loc) (T : Hp) (ps : List (AV × AV)) (T' : Hp) : Prop :=
 ∀ (ks : List (Option PySem.Expr)) (xs : List PySem.Expr) (env : Env) (A : Around) (s : Shared) (ρ δ : Nat → Addr) (Q : List (Value × Value) → Shared → Prop) (E : Value → Shared → Prop) (pos : Pos), MPs l env.kindOf ks xs → At c d loc T env A s ρ δ →
  (∀ ρ' δ' h' t' vals, Go c No ρ δ T.n s.heap ρ' δ' T'.n h' → HR c ρ' δ' T' T'.n h' → PR T'.n ρ' ps vals → Q vals (Sh s h' t')) → wpAny (model c.prog c.w) A (evalPairs (pairTrees ks xs env pos)) Q E s
theorem fill_snd {c : Cx} {n : Nat} {ρ : Nat → Addr} {A : Around} {E : Value → Shared → Prop} {a : Addr} {Q : PUnit → Shared → Prop} (vs : List (AV × AV)) : ∀ {ps : List (Value × Value)} {s : Shared} {es : List (AV × AV)} {ep : Nat}, filOk vs es = true → PR n ρ vs ps → DR c n ρ s.heap a es ep →
  (∀ h' t' es' ep', fil vs es ep = .dict es' ep' → DR c n ρ h' a es' ep' → Heap.SameBut a s.heap h' → Q PUnit.unit (Sh s h' t')) → wpAny (model c.prog c.w) A (storeAll a ps) Q E s := by
 induction vs with
 | nil =>
  intro ps s es ep e pr x nx
  cases ps with
  | cons => exact pr.elim
  | nil => exact wpAny_pure (nx s.heap s.toks es ep rfl x (Heap.SameBut.refl ..))
 | cons p r ih =>
  intro ps s es ep e pr x nx
  cases ps with
  | nil => exact pr.elim
  | cons q l =>
   obtain ⟨e1, e2⟩ := (Bool.and_eq_true _ _).mp (show (kOk p.1 es && Nat.blt es.length 4000 && filOk r (dpt p.1 p.2 es)) = true from e)
   obtain ⟨e3, e4⟩ := (Bool.and_eq_true _ _).mp e1
   unfold storeAll
   rw [List.forIn_cons]
   refine wpAny_bind (wpAny_bind (DR.set x e3 (Nat.le_of_ble_eq_true e4) pr.1 pr.2.1 fun h' t' x' sb => ?_).2)
   exact wpAny_pure (ih (s := Sh s h' t') e2 pr.2.2 x' fun h'' t'' es'' ep'' eo' x'' sb' => nx h'' t'' es'' ep'' eo' x'' (sb.trans sb'))
section
variable {c : Cx} {d : Nat} {loc : Loc} {T T1 T2 T3 : Hp} {a b k v : AV} {x y o i : PE} {l : PEs} {ps : List (AV × AV)} {r ep : Nat} {es : List (AV × AV)}
theorem P_nil : Pv c .nil d loc T [] T := by
 rintro _ _ env A s ρ δ Q E pos ⟨rfl, rfl⟩ at' ct
 exact pairTrees_nil_walk (ct ρ δ s.heap s.toks [] Go.refl at'.hr trivial)
theorem P_cons (e1 : Ev c x d loc T a T1) (e2 : Ev c y d loc T1 b T2) (e3 : Pv c l d loc T2 ps T3) : Pv c (.cons x (.cons y l)) d loc T ((a, b) :: ps) T3 := by
 rintro _ _ env A s ρ δ Q E pos ⟨k', v', ks', vs', rfl, rfl, mk, mv, ms⟩ at' ct
 refine pairTrees_cons_walk (e1 _ env A s ρ δ _ E mk at' fun ρ1 δ1 h1 t1 va g1 hr1 vr1 => ?_)
 have a1 := At.go (t' := t1) at' g1 hr1
 refine e2 _ env A (Sh s h1 t1) ρ1 δ1 _ E mv a1 fun ρ2 δ2 h2 t2 vb g2 hr2 vr2 => ?_
 refine e3 _ _ env A (Sh s h2 t2) ρ2 δ2 _ E pos ms (At.go (s := Sh s h1 t1) (t' := t2) a1 g2 hr2) fun ρ3 δ3 h3 t3 vals g3 hr3 pr => ?_
 exact ct ρ3 δ3 h3 t3 ((va, vb) :: vals) (g1.trans (g2.trans g3)) hr3 ⟨g3.vr (g2.vr vr1), g3.vr vr2, pr⟩
theorem MPs.size {kd : Kd} (ps : List (AV × AV)) : ∀ {l : PEs} {ks : List (Option PySem.Expr)} {xs : List PySem.Expr}, MPs l kd ks xs → lenE l = 2 * ps.length → ks.all (·.isSome) = true ∧ ks.length = xs.length ∧ ks.length = ps.length := by
 induction ps with
 | nil =>
  intro l ks xs h e
  cases l with
  | nil => obtain ⟨rfl, rfl⟩ := h; exact ⟨rfl, rfl, rfl⟩
  | cons => cases e
 | cons p ps ih =>
  intro l ks xs h e
  cases l with
  | nil => cases e
  | cons a l => cases l with
   | nil => exact h.elim
   | cons b l =>
    obtain ⟨k', v', ks', vs', rfl, rfl, _, _, m⟩ := h
    have : lenE l = 2 * ps.length := by
     have : lenE l + 1 + 1 = 2 * (ps.length + 1) := e
     omega
    obtain ⟨q1, q2, q3⟩ := ih m this
    exact ⟨by rw [List.all_cons, q1]; rfl, congrArg (· + 1) q2, congrArg (· + 1) q3⟩
variable (ok : Ok c)
include ok
theorem new_dict {ρ δ : Nat → Addr} {s : Shared} (hr : HR c ρ δ T T.n s.heap) : DR c (T.n + 1) (ext ρ T.n s.heap.objs.size) (s.heap.push { cls := .type "dict", data := .dict #[] }) s.heap.objs.size [] 0 := by
 refine ⟨beq_false_of_ne fun z => ?_, .inl ⟨[], ⟨_, #[], Heap.get?_push_size _ rfl, ⟨rfl, rfl, rfl⟩, rfl, fun _ he => by simp at he, Pairs.nil, List.nodup_nil⟩, trivial⟩⟩
 obtain ⟨ob, q⟩ := ok.sysm
 have := hr.base _ _ q
 rw [← z, dead_end s.heap (Nat.le_refl _)] at this
 cases this
theorem R_dict0 : Ev c (.dict .nil) d loc T (.ref T.n) (hnew T (.dict [] 0)) := by
 rintro _ env A s ρ δ Q E ⟨_, _, p, rfl, ⟨rfl, rfl⟩, _⟩ at' ct
 exact wpAny_Dict_empty (Kv.push (ob := { cls := .type "dict", data := .dict #[] }) (t := s.toks) ct at'.hr rfl (new_dict ok at'.hr))
theorem R_dict (e1 : Pv c l d loc (hnew T (.dict [] 0)) ps T1) (ho : T1.get T.n = some (.dict [] 0)) (z : Nat.ble 1 T.n = true) (len : lenE l = 2 * ps.length) (ne : ps ≠ []) (fo : filOk ps [] = true) : Ev c (.dict l) d loc T (.ref T.n) (hput T1 T.n (fil ps [] 0)) := by
 rintro _ env A s ρ δ Q E ⟨ks, xs, p, rfl, mp, le⟩ at' ct
 obtain ⟨z1, z2, z3⟩ := MPs.size ps mp len
 obtain ⟨hr1, g1⟩ := at'.hr.push (X := No) (T' := hnew T (.dict [] 0)) (o := { cls := .type "dict", data := .dict #[] }) (get_hnew T _) rfl (new_dict ok at'.hr)
 refine wpAny_Dict_any z1 z2 (fun q => ne (List.length_eq_zero_iff.mp (by rw [← z3, q]; rfl))) (by rw [len, ← z3] at le; omega) ?_
 refine e1 ks xs env A (Sh s _ s.toks) _ _ _ E _ mp ⟨at'.fr.go g1, hr1, at'.ro, at'.fgo g1⟩ fun ρ2 δ2 h2 t2 vals g2 hr2 pr => ?_
 have lt : T.n < T1.n := g2.le
 have ea : ρ2 T.n = s.heap.objs.size := by rw [(g2.same T.n (Nat.lt_succ_self T.n)).1, ext_at]
 rw [← ea]
 refine fill_snd ps (s := Sh s h2 t2) fo pr (hr2.obj _ _ ho).2 fun h4 t4 es' ep' eo' x' sb => ?_
 obtain ⟨hr4, g4⟩ := hr2.turn1 (ao := .dict es' ep') (X := No) (Nat.le_of_ble_eq_true z) lt sb.extBut x'.live x'
 rw [eo'] at ct
 exact ct ρ2 δ2 h4 t4 _ (Go.trans g1 (g2.trans g4)) hr4 ⟨lt, rfl⟩
omit ok
section
variable {prog : Program} {w : World} {A : Around} {E : Value → Shared → Prop} {s : Shared} {K : Type} [DecidableEq K] {knd : KeyKind prog w K}
end
end
end Mine
end
section
open PySem PySem.W PyProof.Rows
namespace Mine
noncomputable def closG (cells : List (Str × Addr)) (c : List (Str × Addr)) (p : Str × NameKind) : List (Str × Addr) := if p.2 == .free then (p.1, (cells.lookup p.1).getD 0) :: c else c
theorem clos_eq {scope : Scope} {env : Env} (h : ∀ p ∈ scope.names, p.2 = .free → ∃ a, env.cells.lookup p.1 = some a) : closureFor scope env = pure (scope.names.foldl (closG env.cells) []) := by
 have fold : ∀ {f : Str × NameKind → List (Str × Addr) → Sem (ForInStep (List (Str × Addr)))} (l : List (Str × NameKind)), (∀ x ∈ l, ∀ b, f x b = pure (.yield (closG env.cells b x))) → ∀ b, forIn l b f = pure (l.foldl (closG env.cells) b) := by
  intro f l
  induction l with
  | nil => exact fun _ b => rfl
  | cons x l ih =>
   intro h b
   rw [List.forIn_cons, h x (.head _) b]
   exact ih (fun y hy => h y (.tail _ hy)) _
 simp only [closureFor]
 rw [fold scope.names (fun x hx b => by
  obtain ⟨n, k⟩ := x
  unfold closG
  dsimp only
  by_cases q : k = .free
  ·subst q
   obtain ⟨a, e⟩ := h _ hx rfl
   simp only [beq_self_eq_true, if_true]
   unfold cellOf
   rw [e]
   rfl
  ·have : (k == NameKind.free) = false := by simpa using q
   simp only [this, Bool.false_eq_true, if_false])]
 rfl
theorem clos_some {cells : List (Str × Addr)} {x : Str} {a : Addr} (l : List (Str × NameKind)) : ∀ (acc : List (Str × Addr)), (∀ p ∈ l, p.2 = .free → ∃ a, cells.lookup p.1 = some a) → (acc.lookup x = some a → cells.lookup x = some a) → (l.foldl (closG cells) acc).lookup x = some a → cells.lookup x = some a := by
 induction l with
 | nil => exact fun acc _ h e => h e
 | cons p l ih =>
  intro acc hf h e
  refine ih _ (fun p hp => hf p (.tail _ hp)) (fun z => ?_) e
  unfold closG at z
  by_cases q : (p.2 == NameKind.free) = true
  ·rw [if_pos q, List.lookup_cons] at z
   by_cases hx : x = p.1
   ·rw [hx, beq_self_eq_true] at z
    cases z
    obtain ⟨b, hb⟩ := hf _ (.head _) (eq_of_beq q)
    rw [hx, hb]; rfl
   ·rw [beq_false_of_ne hx] at z; exact h z
  ·rw [if_neg q] at z; exact h z
theorem clos_free {cells : List (Str × Addr)} {x : Str} {a : Addr} (hx : cells.lookup x = some a) (l : List (Str × NameKind)) : ∀ (acc : List (Str × Addr)), (x, NameKind.free) ∈ l ∨ acc.lookup x = some a → (l.foldl (closG cells) acc).lookup x = some a := by
 induction l with
 | nil => exact fun acc h => h.elim (fun h => by cases h) id
 | cons p l ih =>
  intro acc h
  refine ih _ ?_
  unfold closG
  by_cases q : (p.2 == NameKind.free) = true
  ·rw [if_pos q]
   by_cases e : x = p.1
   ·right; rw [← e, List.lookup_cons, beq_self_eq_true, hx]; rfl
   ·rcases h with h | h
    ·cases h with
     | head => exact absurd rfl e
     | tail _ h => exact .inl h
    ·right; rw [List.lookup_cons, beq_false_of_ne e]; exact h
  ·rw [if_neg q]
   rcases h with h | h
   ·cases h with
    | head => exact absurd rfl q
    | tail _ h => exact .inl h
   ·exact .inr h
theorem kdC_env {env : Env} {scope : Scope} {C : Addr} {cl : List (Str × Addr)} (hk : env.scope.kind = .function) : (compEnvC scope cl C env).kindOf = kdC env.kindOf scope := by
 funext x
 show (relabel scope env).names.lookup x = _
 unfold relabel kdC
 congr 1
 refine List.map_congr_left fun p _ => ?_
 obtain ⟨n, k⟩ := p
 dsimp only
 rw [hk]
 simp
noncomputable def hasN (xs : List Nat) (x : Nat) : Bool := @List.rec _ (fun _ => Bool) false (fun y _ r => cond (Nat.beq y x) true r) xs
noncomputable def rm (xs : List Nat) (l : Loc) : Loc := @List.rec _ (fun _ => Loc) [] (fun p _ r => cond (hasN xs p.1) r (p :: r)) l
theorem hasN_iff {xs : List Nat} {x : Nat} : hasN xs x = true ↔ x ∈ xs := by
 induction xs with
 | nil => exact ⟨fun h => (by cases h), fun h => (by cases h)⟩
 | cons y l ih =>
  show cond (Nat.beq y x) true (hasN l x) = true ↔ _
  by_cases e : y = x
  ·subst e; rw [Nat.beq_refl]; exact ⟨fun _ => .head _, fun _ => rfl⟩
  ·rw [beq_no e]
   exact ⟨fun h => .tail _ (ih.mp h), fun h => ih.mpr (by cases h with | head => exact absurd rfl e | tail _ h => exact h)⟩
theorem lk_rm {xs : List Nat} {x : Nat} {v : AV} {l : Loc} (e : lk (rm xs l) x = some v) : lk l x = some v ∧ x ∉ xs := by
 induction l with
 | nil => cases e
 | cons p l ih =>
  obtain ⟨k, w⟩ := p
  have e : lk (cond (hasN xs k) (rm xs l) ((k, w) :: rm xs l)) x = some v := e
  rw [lk_cons]
  cases q : hasN xs k with
  | true =>
   rw [q] at e
   rw [if_neg fun z : k = x => (ih e).2 (z ▸ hasN_iff.mp q)]
   exact ih e
  | false =>
   rw [q] at e
   have e : lk ((k, w) :: rm xs l) x = some v := e
   rw [lk_cons] at e
   by_cases z : k = x
   ·rw [if_pos z] at e ⊢
    exact ⟨e, fun h => by rw [hasN_iff.mpr (z ▸ h)] at q; cases q⟩
   ·rw [if_neg z] at e ⊢
    exact ih e
theorem kdC_some {kd : Kd} {x : Str} {k : NameKind} (l : List (Str × NameKind)) (e : (l.map fun p => if (p.2 == NameKind.free && kd p.1 == some .cell) then (p.1, NameKind.cell) else p).lookup x = some k) :
  ∃ k0, (x, k0) ∈ l ∧ ((k0 = .free ∧ kd x = some .cell ∧ k = .cell) ∨ (k = k0 ∧ ¬ (k0 = .free ∧ kd x = some .cell))) := by
 induction l with
 | nil => cases e
 | cons p l ih =>
  obtain ⟨n, k0⟩ := p
  rw [List.map_cons] at e
  by_cases hx : x = n
  ·subst hx
   by_cases q : (k0 == NameKind.free && kd x == some .cell) = true
   ·rw [if_pos q, List.lookup_cons, beq_self_eq_true] at e
    cases e
    rw [Bool.and_eq_true] at q
    exact ⟨k0, .head _, .inl ⟨eq_of_beq q.1, eq_of_beq q.2, rfl⟩⟩
   ·rw [if_neg q, List.lookup_cons, beq_self_eq_true] at e
    cases e
    refine ⟨_, .head _, .inr ⟨rfl, fun z => q ?_⟩⟩
    rw [z.1, z.2]; rfl
  ·have this : (x == n) = false := beq_false_of_ne hx
   rw [List.lookup_cons] at e
   rw [show (x == (if (k0 == NameKind.free && kd n == some .cell) = true then (n, NameKind.cell) else (n, k0)).1) = false by split <;> exact this] at e
   obtain ⟨k1, h1, h2⟩ := ih e
   exact ⟨k1, .tail _ h1, h2⟩
structure CompFacts (kd : Kd) (scope : Scope) (xs : List Nat) : Prop where
 kind : scope.kind = .function
 nocell : ∀ p ∈ scope.names, p.2 ≠ .cell
 free : ∀ p ∈ scope.names, p.2 = .free → kd p.1 = some .cell ∧ ∃ x, nmS x = p.1
 loc : ∀ p ∈ scope.names, p.2 = .local → scope.names.lookup p.1 = some .local
 few : ∀ p ∈ scope.names, p.2 = .local → (∃ x ∈ xs, nmS x = p.1) ∨ p.1 = (".0" : Str)
 tgt : ∀ x ∈ xs, scope.names.lookup (nmS x) = some .local
theorem compOk_of {kd : Kd} {scope : Scope} {xs : List Nat} (h : compOk kd scope xs = true) : CompFacts kd scope xs := by
 unfold compOk at h
 simp only [Bool.and_eq_true, List.all_eq_true, beq_iff_eq, bne_iff_ne, Bool.or_eq_true, List.any_eq_true] at h
 obtain ⟨⟨h1, h2⟩, h3⟩ := h
 refine ⟨h1, fun p hp => (h2 p hp).1.1.1, fun p hp q => ?_, fun p hp q => ?_, fun p hp q => ?_, h3⟩
 ·rcases (h2 p hp).1.1.2 with z | z
  ·exact absurd q z
  ·unfold cellish at z
   rw [Bool.and_eq_true] at z
   exact ⟨eq_of_beq z.1, _, eq_of_beq z.2⟩
 ·exact (h2 p hp).1.2.elim (absurd q) id
 ·exact (h2 p hp).2.elim (fun z => z.elim (absurd q) .inl) .inr
noncomputable abbrev k_dot0 : Nat := 12591
section
variable {c : Cx} {ρ δ : Nat → Addr} {T : Hp} {n : Nat} {h h' : Heap} {loc : Loc} {env : Env} {scope : Scope} {xs : List Nat} {C : Addr}
theorem FR.comp (fr : FR c ρ δ n loc env h) (cf : CompFacts env.kindOf scope xs) (hc : ∀ p ∈ scope.names, p.2 = .free → ∃ a, env.cells.lookup p.1 = some a) (hC : h.get? C = none) (off : Off c ρ δ n C) (hbC : c.hb.get? C = none)
  (k : ∀ b o, h.get? b = some o → h'.get? b = some o) (ns : h'.Ns C fun _ => none) : FR c ρ δ n (rm (k_dot0 :: xs) loc) (compEnvC scope (scope.names.foldl (closG env.cells) []) C env) h' := by
 have kd := kdC_env (env := env) (scope := scope) (C := C) (cl := scope.names.foldl (closG env.cells) []) fr.kind
 have cs : ∀ {x a}, (scope.names.foldl (closG env.cells) []).lookup x = some a → env.cells.lookup x = some a := fun {x a} e => clos_some scope.names [] hc (fun z => by cases z) e
 have kc : ∀ {a v}, h.IsCell a v → h'.IsCell a v := fun {a v} ⟨o, q, r⟩ => ⟨o, k _ o q, r⟩
 have kinds : ∀ {x : Str} {q : NameKind}, (compEnvC scope (scope.names.foldl (closG env.cells) []) C env).kindOf x = some q → ∃ k0, (x, k0) ∈ scope.names ∧ ((k0 = .free ∧ env.kindOf x = some .cell ∧ q = .cell) ∨ (q = k0 ∧ ¬ (k0 = .free ∧ env.kindOf x = some .cell))) := fun {x q} e => by
  rw [kd] at e; exact kdC_some _ e
 have isCell : ∀ {x : Str}, (compEnvC scope (scope.names.foldl (closG env.cells) []) C env).kindOf x = some .cell → env.kindOf x = some .cell ∧ (x, NameKind.free) ∈ scope.names := fun {x} e => by
  obtain ⟨k0, h1, h2⟩ := kinds e
  rcases h2 with ⟨h3, h4, _⟩ | ⟨h3, _⟩
  ·subst h3; exact ⟨h4, h1⟩
  ·subst h3; exact absurd rfl (cf.nocell _ h1)
 refine ⟨cf.kind, fr.glo, fr.bui, off, hbC, ?_, ?_, ?_, ⟨_, ns, ?_⟩, ?_, ?_⟩
 ·intro x a e
  obtain ⟨z1, z2, z3⟩ := fr.offC x a (cs e)
  exact ⟨z1, dead_ne z3 hC, let ⟨o, q⟩ := z3; ⟨o, k _ o q⟩⟩
 ·intro x a e1 e2
  exact fr.hbC x a (isCell e1).1 (cs e2)
 ·intro x y a e1 e2
  exact fr.inj x y a (cs e1) (cs e2)
 ·intro x v e q
  obtain ⟨l1, l2⟩ := lk_rm e
  obtain ⟨k0, h1, h2⟩ := kinds q
  rcases h2 with ⟨_, _, h3⟩ | ⟨h3, _⟩
  ·cases h3
  ·subst h3
   rcases cf.few _ h1 rfl with ⟨y, h4, h5⟩ | h4
   ·exact absurd (.tail _ (nmS_inj h5 ▸ h4)) l2
   ·have : x = k_dot0 := nmS_inj (h4.trans (by decide +kernel))
    subst this
    exact absurd (.head _) l2
 ·intro x v e q
  obtain ⟨l1, l2⟩ := lk_rm e
  have : (nmS x, NameKind.free) ∈ scope.names := by
   rcases q with q | q
   ·exact (isCell q).2
   ·obtain ⟨k0, h1, h2⟩ := kinds q
    rcases h2 with ⟨_, _, h3⟩ | ⟨h3, _⟩
    ·cases h3
    ·subst h3; exact h1
  obtain ⟨a, val, z1, z2, z3⟩ := fr.cel x v l1 (.inl (cf.free _ this rfl).1)
  exact ⟨a, val, clos_free z1 scope.names [] (.inl this), kc z2, z3⟩
 ·intro x q
  obtain ⟨h1, h2⟩ := isCell q
  obtain ⟨a, v, z1, z2⟩ := fr.celE x h1
  exact ⟨a, v, clos_free z1 scope.names [] (.inl h2), kc z2⟩
theorem FR.cells (fr : FR c ρ δ n loc env h) (cf : CompFacts env.kindOf scope xs) : ∀ p ∈ scope.names, p.2 = .free → ∃ a, env.cells.lookup p.1 = some a := fun p hp q => by
 obtain ⟨z1, x, z2⟩ := cf.free p hp q
 obtain ⟨a, v, z3, _⟩ := fr.celE x (by rw [z2]; exact z1)
 exact ⟨a, by rw [← z2]; exact z3⟩
end
end Mine
end
section
open PySem PySem.W PyProof.Rows
namespace Mine
theorem ItAt.self {prog : Program} {w : World} {A : Around} {s : Shared} {E : Value → Shared → Prop} {I a : Addr} {ik : IK} {i : Nat} {Q : Value → Shared → Prop} (it : ItAt s.heap I a ik i) (h : Q (.ref I) s) : wpAny (model prog w) A (pyIter (.ref I)) Q E s := by
 cases ik with
 | list => exact wpAny_pyIter_listiter it h
 | tuple => exact wpAny_pyIter_tupleiter it h
 | dict => exact wpAny_pyIter_keyiter it h
 | range => exact wpAny_pyIter_rangeiter it h
noncomputable abbrev testsF (env : Env) : PySem.Expr → Bool → Sem (ForInStep Bool) := fun c r => if r = true then do let ok ← isTrue c env (eval c env); pure (ForInStep.yield ok) else pure (ForInStep.yield r)
section
variable {prog : Program} {w : World} {A : Around} {s : Shared} {R : Result → Shared → Prop}
theorem listc_step {elt target iter : PySem.Expr} {ifs : List PySem.Expr} {scope : Scope} {pos : Pos} {it acc : Value} {env : Env} {E : Value → Shared → Prop} (hE : E = notedBy (model prog w) A env fun e s' => R (.error e) s')
  (h : wpAny (model prog w) A (pyNext it) (fun r s₁ => match r with
   | none => R (.ok .next) s₁
   | some v => wpAny (model prog w) A (letOwnedTupleGo target it v) (fun _ s₁' => wpAny (model prog w) A (assign target env v) (fun _ s₂ =>
     wpAny (model prog w) A (forIn ifs true (testsF env)) (fun ok s₃ =>
      if ok = true then wpAny (model prog w) A (eval elt env) (fun x s₄ =>
       wpAny (model prog w) A (call (.builtin "list.append") [acc, x]) (fun _ s₅ => codeAny (model prog w) A (.compLoop (.ListComp elt [⟨target, iter, ifs, 0⟩] scope pos) 0 it acc env) R s₅) E s₄) E s₃
      else codeAny (model prog w) A (.compLoop (.ListComp elt [⟨target, iter, ifs, 0⟩] scope pos) 0 it acc env) R s₃) E s₂) E s₁') E s₁) E s) :
  codeAny (model prog w) A (.compLoop (.ListComp elt [⟨target, iter, ifs, 0⟩] scope pos) 0 it acc env) R s := by
 refine codeAny_of_tree ?_
 show wpAny _ A ((compTurn (.ListComp elt [⟨target, iter, ifs, 0⟩] scope pos) 0 it acc env).onRaise (fun x => do noteFrame x env; theTreesLotGoes x)) _ _ s
 refine wpAny_noted ?_
 rw [compTurn_list]
 subst hE
 refine wpAny_bind (wpAny_standAt (wpAny_bind (wpAny_mono h (fun r s₁ h₁ => ?_) fun _ _ h' => h')))
 cases r with
 | none => exact wpAny_pure h₁
 | some v =>
  refine wpAny_bind (wpAny_mono h₁ (fun _ s₁' h₁' => ?_) fun _ _ h' => h')
  refine wpAny_bind (wpAny_mono h₁' (fun _ s₂ h₂ => wpAny_bind (wpAny_mono h₂ (fun ok s₃ h₃ => ?_) fun _ _ h' => h')) fun _ _ h' => h')
  cases ok with
  | false => exact wpAny_pure ⟨rfl, h₃⟩
  | true =>
   exact wpAny_bind (wpAny_bind (wpAny_mono h₃ (fun x s₄ h₄ => wpAny_bind (wpAny_mono h₄ (fun _ s₅ h₅ => wpAny_pure (wpAny_pure ⟨rfl, h₅⟩)) fun _ _ h' => h')) fun _ _ h' => h'))
theorem dictc_step {kx vx target iter : PySem.Expr} {ifs : List PySem.Expr} {scope : Scope} {pos : Pos} {it : Value} {D : Addr} {env : Env} {E : Value → Shared → Prop} (hE : E = notedBy (model prog w) A env fun e s' => R (.error e) s')
  (h : wpAny (model prog w) A (pyNext it) (fun r s₁ => match r with
   | none => R (.ok .next) s₁
   | some v => wpAny (model prog w) A (letOwnedTupleGo target it v) (fun _ s₁' => wpAny (model prog w) A (assign target env v) (fun _ s₂ =>
     wpAny (model prog w) A (forIn ifs true (testsF env)) (fun ok s₃ =>
      if ok = true then wpAny (model prog w) A (eval kx env) (fun kv s₄ => wpAny (model prog w) A (eval vx env) (fun vv s₅ =>
       wpAny (model prog w) A (dictSet D kv vv) (fun _ s₆ => codeAny (model prog w) A (.compLoop (.DictComp kx vx [⟨target, iter, ifs, 0⟩] scope pos) 0 it (.ref D) env) R s₆) E s₅) E s₄) E s₃
      else codeAny (model prog w) A (.compLoop (.DictComp kx vx [⟨target, iter, ifs, 0⟩] scope pos) 0 it (.ref D) env) R s₃) E s₂) E s₁') E s₁) E s) :
  codeAny (model prog w) A (.compLoop (.DictComp kx vx [⟨target, iter, ifs, 0⟩] scope pos) 0 it (.ref D) env) R s := by
 refine codeAny_of_tree ?_
 show wpAny _ A ((compTurn (.DictComp kx vx [⟨target, iter, ifs, 0⟩] scope pos) 0 it (.ref D) env).onRaise (fun x => do noteFrame x env; theTreesLotGoes x)) _ _ s
 refine wpAny_noted ?_
 rw [compTurn_dict]
 subst hE
 refine wpAny_bind (wpAny_standAt (wpAny_bind (wpAny_mono h (fun r s₁ h₁ => ?_) fun _ _ h' => h')))
 cases r with
 | none => exact wpAny_pure h₁
 | some v =>
  refine wpAny_bind (wpAny_mono h₁ (fun _ s₁' h₁' => ?_) fun _ _ h' => h')
  refine wpAny_bind (wpAny_mono h₁' (fun _ s₂ h₂ => wpAny_bind (wpAny_mono h₂ (fun ok s₃ h₃ => ?_) fun _ _ h' => h')) fun _ _ h' => h')
  cases ok with
  | false => exact wpAny_pure ⟨rfl, h₃⟩
  | true =>
   exact wpAny_bind (wpAny_bind (wpAny_mono h₃ (fun kv s₄ h₄ => wpAny_bind (wpAny_holding (wpAny_mono h₄ (fun vv s₅ h₅ => wpAny_bind (wpAny_standAt (wpAny_holding (wpAny_mono h₅ (fun _ s₆ h₆ => wpAny_pure ⟨rfl, h₆⟩) fun _ _ h' => h')))) fun _ _ h' => h'))) fun _ _ h' => h'))
end
noncomputable def Te (c : Cx) (l : PEs) (d : Nat) (loc : Loc) (T : Hp) (b : Bool) (T' : Hp) : Prop :=
 ∀ (xs : List PySem.Expr) (env : Env) (A : Around) (s : Shared) (ρ δ : Nat → Addr) (Q : Bool → Shared → Prop) (E : Value → Shared → Prop), MEs l env.kindOf xs → At c d loc T env A s ρ δ →
  (∀ ρ' δ' h' t', Go c No ρ δ T.n s.heap ρ' δ' T'.n h' → HR c ρ' δ' T' T'.n h' → Q b (Sh s h' t')) → wpAny (model c.prog c.w) A (forIn xs true (testsF env)) Q E s
section
variable {c : Cx} {d : Nat} {loc : Loc} {T T1 T2 : Hp} {e : PE} {l : PEs} {b : Bool}
theorem Te_nil : Te c .nil d loc T true T := by
 rintro _ env A s ρ δ Q E rfl a ct
 exact wpAny_pure (ct ρ δ s.heap s.toks Go.refl a.hr)
theorem Te_go (e1 : Tr c e d loc T true T1) (e2 : Te c l d loc T1 b T2) : Te c (.cons e l) d loc T b T2 := by
 rintro _ env A s ρ δ Q E ⟨e', l', rfl, m1, m2, _⟩ a ct
 rw [List.forIn_cons]
 refine wpAny_bind (wpAny_bind (e1 _ env A s ρ δ _ E m1 a fun ρ1 δ1 h1 t1 g1 hr1 => wpAny_pure ?_))
 exact e2 _ env A (Sh s h1 t1) ρ1 δ1 _ E m2 (a.go g1 hr1) fun ρ2 δ2 h2 t2 g2 hr2 => ct ρ2 δ2 h2 t2 (g1.trans g2) hr2
theorem Te_stop (e1 : Tr c e d loc T false T1) : Te c (.cons e l) d loc T false T1 := by
 rintro _ env A s ρ δ Q E ⟨e', l', rfl, m1, m2, _⟩ a ct
 rw [List.forIn_cons]
 refine wpAny_bind (wpAny_bind (e1 _ env A s ρ δ _ E m1 a fun ρ1 δ1 h1 t1 g1 hr1 => wpAny_pure ?_))
 have z := ct ρ1 δ1 h1 t1 g1 hr1
 clear m2
 induction l' with
 | nil => exact wpAny_pure z
 | cons x l' ih =>
  show wpAny _ _ (forIn (x :: l') false (testsF env)) _ _ _
  rw [List.forIn_cons]
  exact wpAny_bind (wpAny_pure ih)
end
inductive CK where | list (v : PE) | dict (k v : PE)
noncomputable def MC (kd : Kd) (ck : CK) (xs : List Nat) (ifs : PEs) (e : PySem.Expr) : Prop := match ck with
 | .list v => ∃ v' tg it ifs' scope p, e = .ListComp v' [⟨tg, it, ifs', 0⟩] scope p ∧ ME v kd v' ∧ MT kd xs tg ∧ MEs ifs kd ifs'
 | .dict k v => ∃ k' v' tg it ifs' scope p, e = .DictComp k' v' [⟨tg, it, ifs', 0⟩] scope p ∧ ME k kd k' ∧ ME v kd v' ∧ MT kd xs tg ∧ MEs ifs kd ifs'
noncomputable def Co (c : Cx) (ck : CK) (acc : Nat) (xs : List Nat) (src : Nat) (ik : IK) (i : Nat) (ifs : PEs) (d : Nat) (loc : Loc) (T T' : Hp) : Prop :=
 ∀ (e : PySem.Expr) (env : Env) (A : Around) (s : Shared) (h1 : Heap) (t1 : Nat) (ρ0 δ0 ρ δ : Nat → Addr) (n0 : Nat) (I : Addr) (R : Result → Shared → Prop), MC env.kindOf ck xs ifs e → (∀ x ∈ xs, env.kindOf (nmS x) = some .local) → At c d loc T env A (Sh s h1 t1) ρ δ →
  Off c ρ δ T.n I → c.hb.get? I = none → ¬ Own env I → src < T.n → acc < T.n → ItAt h1 I (ρ src) ik i → s.heap.get? I = none → s.heap.get? env.locals = none → Go c No ρ0 δ0 n0 s.heap ρ δ T.n h1 →
  (∀ ρ' δ' h' t', Go c No ρ0 δ0 n0 s.heap ρ' δ' T'.n h' → HR c ρ' δ' T' T'.n h' → Off c ρ' δ' T'.n env.locals → acc < T'.n → ρ' acc = ρ acc → (∃ m, h'.Ns env.locals m) → R (.ok .next) (Sh s h' t')) →
  codeAny (model c.prog c.w) A (.compLoop e 0 (.ref I) (.ref (ρ acc)) env) R (Sh s h1 t1)
section
variable {c : Cx} {ck : CK} {d acc src i : Nat} {xs : List Nat} {ik : IK} {ifs : PEs} {loc loc1 : Loc} {T T1 T2 T3 T4 : Hp} {x y kx : AV} {k v : PE} {ys : List AV} {es : List (AV × AV)} {ep : Nat}
theorem Co_end (e : Turn T src i none ik) : Co c ck acc xs src ik i ifs d loc T T := by
 intro ex env A s h1 t1 ρ0 δ0 ρ δ n0 I R mc tl a off hbI nOwn hs ha it dead deadL g ct
 have fin : ∀ {Q : Option Value → Shared → Prop} {E : Value → Shared → Prop}, (∀ s', R (.ok .next) s' → Q none s') → wpAny (model c.prog c.w) A (pyNext (.ref I)) Q E (Sh s h1 t1) := fun z =>
  next_end (s := Sh s h1 t1) e a.hr it a.ro.2.2 fun h2 eb => z _ (ct ρ δ h2 t1 (g.iter eb dead) (a.hr.of_ext eb off hbI) a.fr.offL ha rfl (let ⟨m, q, _⟩ := (a.fr.of_ext eb nOwn).ns; ⟨m, q⟩))
 cases ck with
 | list => obtain ⟨v', tg, it', ifs', scope, p, rfl, _⟩ := mc; exact listc_step rfl (fin fun s' z => z)
 | dict => obtain ⟨k', v', tg, it', ifs', scope, p, rfl, _⟩ := mc; exact dictc_step rfl (fin fun s' z => z)
theorem co_turn {b : Bool} {tg : PySem.Expr} {ifs' : List PySem.Expr} {env : Env} {A : Around} {s : Shared} {h1 : Heap} {t1 : Nat} {ρ0 δ0 ρ δ : Nat → Addr} {n0 : Nat} {I : Addr} {P : Option Value → Shared → Prop} {E : Value → Shared → Prop} {K : Bool → Shared → Prop} (e : Turn T src i (some x) ik) (eb : BindTo T xs x loc loc1) (e2 : Te c ifs d loc1 T b T1) (mt : MT env.kindOf xs tg) (mi : MEs ifs env.kindOf ifs') (tl : ∀ x ∈ xs, env.kindOf (nmS x) = some .local) (a : At c d loc T env A (Sh s h1 t1) ρ δ)
  (off : Off c ρ δ T.n I) (hbI : c.hb.get? I = none) (nOwn : ¬ Own env I) (it : ItAt h1 I (ρ src) ik i) (dead : s.heap.get? I = none) (deadL : s.heap.get? env.locals = none) (g : Go c No ρ0 δ0 n0 s.heap ρ δ T.n h1)
  (hP : ∀ val s₁, wpAny (model c.prog c.w) A (letOwnedTupleGo tg (.ref I) val) (fun _ s₁' => wpAny (model c.prog c.w) A (assign tg env val) (fun _ s₂ => wpAny (model c.prog c.w) A (forIn ifs' true (testsF env)) K E s₂) E s₁') E s₁ → P (some val) s₁)
  (k : ∀ ρ4 δ4 h3 h4 t4, Go c No ρ0 δ0 n0 s.heap ρ δ T.n h3 → ItAt h3 I (ρ src) ik (i + 1) → Go c No ρ δ T.n h3 ρ4 δ4 T1.n h4 → At c d loc1 T1 env A (Sh s h4 t4) ρ4 δ4 → K b (Sh s h4 t4)) : wpAny (model c.prog c.w) A (pyNext (.ref I)) P E (Sh s h1 t1) := by
 have nL : I ≠ env.locals := fun z => nOwn (.inl z)
 refine next_item (s := Sh s h1 t1) e a.hr it fun h2 t2 val vr sb it2 => hP _ _ ?_
 refine ItAt.own (s := Sh s h2 t2) it2 ?_
 refine bind_sndX (X := fun a => a = env.locals) (s := Sh s h2 t2) eb mt (a.fr.of_ext sb.extBut nOwn) (a.hr.of_ext sb.extBut off hbI) a.ro vr (fun h3 t3 g3 hr3 fr3 => ?_) (fun y hy => ⟨fun _ => rfl, fun a q _ => by rw [tl y hy] at q; cases q⟩)
 have G3 : Go c No ρ0 δ0 n0 s.heap ρ δ T.n h3 := ((g.iter sb.extBut dead).any.trans g3).weak fun a la z => (dead_ne la deadL z).elim
 have f3 : ∃ e l, Fm c ρ δ T.n A h3 (e :: l) ∧ e.frame = env.frame := let ⟨e, l, f, q⟩ := a.fm; ⟨e, l, (f.ext sb.extBut it.nodict).go g3, q⟩
 exact e2 ifs' env A (Sh s h3 t3) ρ δ _ _ mi ⟨fr3, hr3, a.ro, f3⟩ fun ρ4 δ4 h4 t4 g4 hr4 => k ρ4 δ4 h3 h4 t4 G3 (it2.go g3 off nL) g4 ⟨fr3.go g4, hr4, a.ro, let ⟨e, l, f, q⟩ := f3; ⟨e, l, f.go g4, q⟩⟩
theorem co_again {e : PySem.Expr} {env : Env} {A : Around} {s : Shared} {ρ0 δ0 ρ δ ρ' δ' : Nat → Addr} {h3 h4 : Heap} {t4 n0 : Nat} {I : Addr} {R : Result → Shared → Prop} (e3 : Co c ck acc xs src ik (i + 1) ifs d loc1 T1 T2) (mc : MC env.kindOf ck xs ifs e) (tl : ∀ x ∈ xs, env.kindOf (nmS x) = some .local) (ro : Room d A)
  (off : Off c ρ δ T.n I) (hbI : c.hb.get? I = none) (nOwn : ¬ Own env I) (hs : src < T.n) (ha : acc < T.n) (dead : s.heap.get? I = none) (deadL : s.heap.get? env.locals = none)
  (ct : ∀ ρ' δ' h' t', Go c No ρ0 δ0 n0 s.heap ρ' δ' T2.n h' → HR c ρ' δ' T2 T2.n h' → Off c ρ' δ' T2.n env.locals → acc < T2.n → ρ' acc = ρ acc → (∃ m, h'.Ns env.locals m) → R (.ok .next) (Sh s h' t'))
  (g3 : Go c No ρ0 δ0 n0 s.heap ρ δ T.n h3) (it3 : ItAt h3 I (ρ src) ik (i + 1)) (g4 : Go c No ρ δ T.n h3 ρ' δ' T1.n h4) (hr4 : HR c ρ' δ' T1 T1.n h4) (fr4 : FR c ρ' δ' T1.n loc1 env h4) (f4 : ∃ e l, Fm c ρ' δ' T1.n A h4 (e :: l) ∧ e.frame = env.frame) : codeAny (model c.prog c.w) A (.compLoop e 0 (.ref I) (.ref (ρ acc)) env) R (Sh s h4 t4) := by
 rw [← (g4.same acc ha).1]
 refine e3 e env A s h4 t4 ρ0 δ0 ρ' δ' n0 I R mc tl ⟨fr4, hr4, ro, f4⟩ (g4.off off it3.live) hbI nOwn (Nat.lt_of_lt_of_le hs g4.le) (Nat.lt_of_lt_of_le ha g4.le) ?_ dead deadL (g3.trans g4) ?_
 ·rw [(g4.same src hs).1]
  exact it3.go g4 off id
 ·intro ρ5 δ5 h5 t5 z1 z2 z3 z4 z5 z6
  exact ct ρ5 δ5 h5 t5 z1 z2 z3 z4 (z5.trans (g4.same acc ha).1) z6
theorem Co_skip (e : Turn T src i (some x) ik) (eb : BindTo T xs x loc loc1) (e2 : Te c ifs d loc1 T false T1) (e3 : Co c ck acc xs src ik (i + 1) ifs d loc1 T1 T2) : Co c ck acc xs src ik i ifs d loc T T2 := by
 intro ex env A s h1 t1 ρ0 δ0 ρ δ n0 I R mc tl a off hbI nOwn hs ha it dead deadL g ct
 have mc' := mc
 have K : ∀ ρ4 δ4 h3 h4 t4, Go c No ρ0 δ0 n0 s.heap ρ δ T.n h3 → ItAt h3 I (ρ src) ik (i + 1) → Go c No ρ δ T.n h3 ρ4 δ4 T1.n h4 → At c d loc1 T1 env A (Sh s h4 t4) ρ4 δ4 → codeAny (model c.prog c.w) A (.compLoop ex 0 (.ref I) (.ref (ρ acc)) env) R (Sh s h4 t4) :=
  fun ρ4 δ4 h3 h4 t4 G3 it3 g4 a4 => co_again e3 mc' tl a.ro off hbI nOwn hs ha dead deadL ct G3 it3 g4 a4.hr a4.fr a4.fm
 cases ck with
 | list => obtain ⟨v', tg, it', ifs', scope, p, rfl, mv, mt, mi⟩ := mc; exact listc_step rfl (co_turn e eb e2 mt mi tl a off hbI nOwn it dead deadL g (fun _ _ z => z) K)
 | dict => obtain ⟨k', v', tg, it', ifs', scope, p, rfl, mk, mv, mt, mi⟩ := mc; exact dictc_step rfl (co_turn e eb e2 mt mi tl a off hbI nOwn it dead deadL g (fun _ _ z => z) K)
theorem Co_list (e : Turn T src i (some x) ik) (eb : BindTo T xs x loc loc1) (e2 : Te c ifs d loc1 T true T1) (ev : Ev c v d loc1 T1 y T2) (ho : T2.get acc = some (.list ys)) (sz : ys.length < 4000) (hro : 1 ≤ acc) (e3 : Co c (.list v) acc xs src ik (i + 1) ifs d loc1 (hput T2 acc (.list (ys ++ [y]))) T3) : Co c (.list v) acc xs src ik i ifs d loc T T3 := by
 intro ex env A s h1 t1 ρ0 δ0 ρ δ n0 I R mc tl a off hbI nOwn hs ha it dead deadL g ct
 have mc' := mc
 obtain ⟨v', tg, it', ifs', scope, p, rfl, mv, mt, mi⟩ := mc
 refine listc_step rfl (co_turn e eb e2 mt mi tl a off hbI nOwn it dead deadL g (fun _ _ z => z) fun ρ4 δ4 h3 h4 t4 G3 it3 g4 a4 => ?_)
 refine ev _ env A (Sh s h4 t4) ρ4 δ4 _ _ mv a4 fun ρ5 δ5 h5 t5 vy g5 hr5 vr5 => ?_
 have la := Nat.lt_of_lt_of_le ha g4.le
 have ea : ρ5 acc = ρ acc := by rw [(g5.same acc la).1, (g4.same acc ha).1]
 rw [← ea]
 obtain ⟨lt, vals, kk, q1, q2⟩ := hr5.obj _ _ ho
 rw [q2.len] at sz
 refine wpAny_list_append_plain (s := Sh s h5 t5) (items := vals.toArray) ⟨kk, q1⟩ (fun h' z1 z2 => ?_) (by rw [List.size_toArray]; exact szl (by first | assumption | omega))
 obtain ⟨k2, z1⟩ := z1
 obtain ⟨hr6, g6⟩ := hr5.turn1 (X := No) (ao := .list (ys ++ [y])) (h' := h') hro lt z2.extBut ⟨_, z1⟩ ⟨vals ++ [vy], k2, by rw [z1]; simp [W.listOf], q2.append ⟨vr5, trivial⟩⟩
 rw [ea]
 exact co_again (s := s) (T1 := hput T2 acc (.list (ys ++ [y]))) e3 mc' tl a.ro off hbI nOwn hs ha dead deadL ct G3 it3 (g4.trans (g5.trans g6)) hr6 ((a4.fr.go g5).go g6) (a4.fgo (g5.trans g6))
theorem Co_dict (e : Turn T src i (some x) ik) (eb : BindTo T xs x loc loc1) (e2 : Te c ifs d loc1 T true T1) (ek : Ev c k d loc1 T1 kx T2) (ev : Ev c v d loc1 T2 y T3) (ho : T3.get acc = some (.dict es ep)) (hk : kOk kx es = true) (sz : es.length < 4000) (hro : 1 ≤ acc) (e3 : Co c (.dict k v) acc xs src ik (i + 1) ifs d loc1 (hput T3 acc (.dict (dpt kx y es) (epS kx es ep))) T4) : Co c (.dict k v) acc xs src ik i ifs d loc T T4 := by
 intro ex env A s h1 t1 ρ0 δ0 ρ δ n0 I R mc tl a off hbI nOwn hs ha it dead deadL g ct
 have mc' := mc
 obtain ⟨k', v', tg, it', ifs', scope, p, rfl, mk, mv, mt, mi⟩ := mc
 refine dictc_step rfl (co_turn e eb e2 mt mi tl a off hbI nOwn it dead deadL g (fun _ _ z => z) fun ρ4 δ4 h3 h4 t4 G3 it3 g4 a4 => ?_)
 refine ek _ env A (Sh s h4 t4) ρ4 δ4 _ _ mk a4 fun ρ5 δ5 h5 t5 vk g5 hr5 vr5 => ?_
 have a5 := At.go (t' := t5) a4 g5 hr5
 refine ev _ env A (Sh s h5 t5) ρ5 δ5 _ _ mv a5 fun ρ6 δ6 h6 t6 vy g6 hr6 vr6 => ?_
 have la := Nat.lt_of_lt_of_le ha g4.le
 have lb := Nat.lt_of_lt_of_le la g5.le
 have ea : ρ6 acc = ρ acc := by rw [(g6.same acc lb).1, (g5.same acc la).1, (g4.same acc ha).1]
 rw [← ea]
 refine (DR.set (s := Sh s h6 t6) (hr6.obj _ _ ho).2 hk sz (g6.vr vr5) vr6 fun h7 t7 x' sb' => ?_).2
 obtain ⟨hr7, g7⟩ := hr6.turn1 (ao := .dict (dpt kx y es) (epS kx es ep)) (X := No) hro (Nat.lt_of_lt_of_le lb g6.le) sb'.extBut x'.live x'
 rw [ea]
 exact co_again (s := s) (T1 := hput T3 acc (.dict (dpt kx y es) (epS kx es ep))) e3 mc' tl a.ro off hbI nOwn hs ha dead deadL ct G3 it3 (g4.trans (g5.trans (g6.trans g7))) hr7 ((a5.fr.go g6).go g7) (a5.fgo (g6.trans g7))
end
end Mine
end
section
open PySem PySem.W PyProof.Rows
namespace Mine
section
variable {c : Cx} {d : Nat} {loc : Loc} {T T1 T2 : Hp}
theorem comp_snd {ck : CK} {xs : List Nat} {ifs : PEs} {e : PySem.Expr} {scope : Scope} {env : Env} {A : Around} {s : Shared} {ρ δ : Nat → Addr} {r : Nat} {ik : IK} {ao : AO} {lo : Obj} {Q E : Value → Shared → Prop} {newAcc : Sem Value} {use : Option (Value → Sem Unit)}
  (hacc : ∀ {s : Shared} {Q : Value → Shared → Prop}, Q (.ref s.heap.objs.size) { s with heap := s.heap.push lo } → wpAny (model c.prog c.w) A newAcc Q E s)
  (hor : ∀ {n : Nat} {ρ : Nat → Addr} {H : Heap}, (∀ b o, c.hb.get? b = some o → H.get? b = some o) → OR c n ρ (H.push lo) H.objs.size H.objs.size ao) (hlo : lo.isFreed = false)
  (hst : ∀ {it acc : Value} {env : Env} {R : Result → Shared → Prop} {s : Shared}, codeAny (model c.prog c.w) A (.compLoop e 0 it acc env) R s → wpAny (model c.prog c.w) A (pyIter it) (fun it' s' => codeAny (model c.prog c.w) A (.compLoop e 0 it' acc env) R s') (notedBy (model c.prog c.w) A env fun x s' => R (.error x) s') s → codeAny (model c.prog c.w) A (.compStart e 0 it acc env) R s)
  (mc : MC (kdC env.kindOf scope) ck xs ifs e) (cf : CompFacts env.kindOf scope xs) (eik : IkOf T r ik) (hv : Co c ck T.n xs r ik 0 ifs d (rm (k_dot0 :: xs) loc) (hnew T ao) T2)
  (lt : r < T.n) (a : At c d loc T env A s ρ δ) (ct : ∀ (C : Addr) ρ' δ' h' t', s.heap.get? C = none → Go c No ρ δ T.n s.heap ρ' δ' T2.n h' → HR c ρ' δ' T2 T2.n h' → Off c ρ' δ' T2.n C → T.n < T2.n → (∃ m, h'.Ns C m) → compPost (model c.prog c.w) A E use Q (.ref (ρ' T.n)) C (.ok .next) (Sh s h' t')) :
  wpAny (model c.prog c.w) A (pyIter (.ref (ρ r))) (fun it s₂ => wpAny (model c.prog c.w) A newAcc (fun acc s₃ =>
   wpAny (model c.prog c.w) A (newFunctionEnv scope env.globals (scope.names.foldl (closG env.cells) []) [] env.qual none .none (some env)) (fun cenv s₄ =>
    codeAny (model c.prog c.w) A (.compStart e 0 it acc { cenv with scope := relabel scope env }) (compPost (model c.prog c.w) A E use Q acc cenv.locals) s₄) E s₃) E s₂) E s := by
 obtain ⟨fr, hr, ro, fe, fl, fm, ff⟩ := a
 refine iter_snd eik hr fun ob hf ia => hacc ?_
 have hc := fr.cells cf
 have dI : s.heap.get? s.heap.objs.size = none := dead_end _ (Nat.le_refl _)
 have k1 : ∀ b o, s.heap.get? b = some o → (s.heap.push ob).get? b = some o := fun b o e => Heap.get?_push_of_some _ e
 have lI : Live (s.heap.push ob) s.heap.objs.size := ⟨ob, Heap.get?_push_size _ hf⟩
 have hr1 : HR c ρ δ T T.n (s.heap.push ob) := hr.of_keeps k1
 have offI : Off c ρ δ T.n s.heap.objs.size := hr.offNew dI
 have hbI : c.hb.get? s.heap.objs.size = none := hr.dead dI
 have fr1 : FR c ρ δ T.n loc env (s.heap.push ob) := fr.go (Go.of_keeps (X := No) k1)
 dsimp only
 generalize hH1 : s.heap.push ob = H1 at *
 obtain ⟨hr2, g2⟩ := hr1.push (X := No) (o := lo) (get_hnew T ao) hlo (hor hr1.base)
 have fr2 := fr1.go g2
 have lI2 : Live (H1.push lo) s.heap.objs.size := let ⟨o, q⟩ := lI; ⟨o, Heap.get?_push_of_some _ q⟩
 generalize hH2 : H1.push lo = H2 at *
 refine wpAny_newFunctionEnv cf.nocell (by intro y hy; cases hy) (fun h3 ns sb => ?_) cf.kind
 dsimp only at ns sb ⊢
 have dC : H2.get? H2.objs.size = none := dead_end _ (Nat.le_refl _)
 have k3 : ∀ b o, H2.get? b = some o → h3.get? b = some o := fun b o q => sb.extBut b o (Nat.ne_of_lt (Heap.lt_size q)) (Heap.get?_push_of_some _ q)
 have k02 : ∀ b o, s.heap.get? b = some o → H2.get? b = some o := fun b o q => by rw [← hH2]; exact Heap.get?_push_of_some _ (k1 b o q)
 have offC : Off c (ext ρ T.n H1.objs.size) (ext δ T.n H1.objs.size) (T.n + 1) H2.objs.size := hr2.offNew (s := { s with heap := H2 }) dC
 have hbC : c.hb.get? H2.objs.size = none := hr2.dead (s := { s with heap := H2 }) dC
 have frc := fr2.comp cf hc dC offC hbC k3 ns
 have hr3 := hr2.of_keeps k3
 have dC0 : s.heap.get? H2.objs.size = none := by
  cases q : s.heap.get? H2.objs.size with
  | none => rfl
  | some o => rw [k02 _ _ q] at dC; cases dC
 have ia3 : ItAt h3 s.heap.objs.size (ρ r) ik 0 := by
  obtain ⟨o, q, _, k⟩ := ia.obj
  exact k _ (k3 _ _ (by rw [← hH2]; exact Heap.get?_push_of_some _ q))
 have loop : codeAny (model c.prog c.w) A (.compLoop e 0 (.ref s.heap.objs.size) (.ref H1.objs.size) (compEnvC scope (scope.names.foldl (closG env.cells) []) H2.objs.size env)) (compPost (model c.prog c.w) A E use Q (.ref H1.objs.size) H2.objs.size) (Sh s h3 s.toks) := by
  have ea : ext ρ T.n H1.objs.size T.n = H1.objs.size := ext_at ..
  have er : ext ρ T.n H1.objs.size r = ρ r := ext_lt lt
  rw [show (Value.ref H1.objs.size) = Value.ref (ext ρ T.n H1.objs.size T.n) by rw [ea]]
  refine hv e (compEnvC scope (scope.names.foldl (closG env.cells) []) H2.objs.size env) A s h3 s.toks ρ δ (ext ρ T.n H1.objs.size) (ext δ T.n H1.objs.size) T.n s.heap.objs.size _ (by rw [kdC_env fr.kind]; exact mc) ?_ ⟨frc, hr3, ro, fe, fl, fm.go ((Go.of_keeps (X := No) k1).trans (g2.trans (Go.of_keeps k3))), ff⟩ (g2.off offI lI) hbI ?_ (Nat.lt_succ_of_lt lt) (Nat.lt_succ_self _) (by rw [er]; exact ia3) dI dC0 ((Go.of_keeps k1).trans (g2.trans (Go.of_keeps k3))) ?_
  ·intro x hx
   exact lookup_relabel_local (cf.tgt x hx)
  ·rintro (z | ⟨x, z⟩)
   ·exact dead_ne lI2 dC z
   ·have := clos_some scope.names [] hc (fun z => by cases z) z
    exact dead_ne (fr.offC x _ this).2.2 dI rfl
  ·intro ρ' δ' h' t' z1 z2 z3 z4 z5 z6
   have := ct _ ρ' δ' h' t' dC0 z1 z2 z3 z4 z6
   rw [z5] at this
   exact this
 exact hst loop (ItAt.self (s := Sh s h3 s.toks) ia3 loop)
variable {it k v : PE} {xs : List Nat} {x : Nat} {ifs : PEs} {r : Nat} {ik : IK}
theorem post_none {s : Shared} {ρ δ : Nat → Addr} {A : Around} {E Q : Value → Shared → Prop} (hr : HR c ρ δ T T.n s.heap) (ct : Kv c s ρ δ T T2 (.ref T.n) Q) (C : Addr) (ρ' δ' : Nat → Addr) (h' : Heap) (t' : Nat) (dC : s.heap.get? C = none) (z1 : Go c No ρ δ T.n s.heap ρ' δ' T2.n h') (z2 : HR c ρ' δ' T2 T2.n h') (z3 : Off c ρ' δ' T2.n C) (z4 : T.n < T2.n) (z6 : ∃ m, h'.Ns C m) : compPost (model c.prog c.w) A E none Q (.ref (ρ' T.n)) C (.ok .next) (Sh s h' t') :=
 let ⟨m, z6⟩ := z6; ⟨m, z6, fun h'' sb' => ct ρ' δ' h'' t' _ (z1.iter sb'.extBut dC) (z2.of_ext sb'.extBut z3 (hr.dead dC)) ⟨z4, rfl⟩⟩
theorem R_listc (e1 : Ev c it d loc T (.ref r) T1) (hk : IkOf T1 r ik) (e2 : Co c (.list v) T1.n xs r ik 0 ifs d (rm (k_dot0 :: xs) loc) (hnew T1 (.list [])) T2) : Ev c (.listc v xs it ifs) d loc T (.ref T1.n) T2 := by
 rintro _ env A s ρ δ Q E ⟨v', tg, it', ifs', scope, p, rfl, m1, ns, ck, mv, mt, mi⟩ a ct
 have cf := compOk_of ck
 rw [eval_ListComp]
 refine wpAny_comprehension_free (use := none) (g := ⟨tg, it', ifs', 0⟩) (gs := []) rfl (fun x => fold_no ns x) (clos_eq (a.fr.cells cf)) cf.kind cf.loc ?_
 show wpAny _ _ (eval it' env) _ _ _
 refine e1 _ env A s ρ δ _ E m1 a fun ρ1 δ1 h' t1 va g1 hr1 vr1 => ?_
 rw [vr1.2]
 exact comp_snd (ck := .list v) (s := Sh s h' t1) (lo := { cls := .type "list", data := .seq ([] : List Value).toArray }) (ao := .list []) (fun z => wpAny_newObj_type z) (fun _ => ⟨[], 0, Heap.get?_push_size _ rfl, trivial⟩) rfl codeAny_compStart_list ⟨v', tg, it', ifs', scope, p, rfl, mv, mt, mi⟩ cf hk e2 vr1.1 (a.go g1 hr1) (post_none (s := Sh s h' t1) hr1 (ct.go g1))
theorem R_dictc (ok : Ok c) (e1 : Ev c it d loc T (.ref r) T1) (hk : IkOf T1 r ik) (e2 : Co c (.dict k v) T1.n [x] r ik 0 ifs d (rm (k_dot0 :: [x]) loc) (hnew T1 (.dict [] 0)) T2) : Ev c (.dictc k v x it ifs) d loc T (.ref T1.n) T2 := by
 rintro _ env A s ρ δ Q E ⟨k', v', tg, it', ifs', scope, p, rfl, m1, ns, ck, mk, mv, mt, mi⟩ a ct
 have cf := compOk_of ck
 rw [arm_eval_DictComp]
 refine wpAny_comprehension_free (use := none) (g := ⟨tg, it', ifs', 0⟩) (gs := []) rfl (fun x => fold_no ns x) (clos_eq (a.fr.cells cf)) cf.kind cf.loc ?_
 show wpAny _ _ (eval it' env) _ _ _
 refine e1 _ env A s ρ δ _ E m1 a fun ρ1 δ1 h' t1 va g1 hr1 vr1 => ?_
 rw [vr1.2]
 refine comp_snd (ck := .dict k v) (s := Sh s h' t1) (lo := { cls := .type "dict", data := .dict #[] }) (ao := .dict [] 0) (fun z => wpAny_newObj_type z) (fun {n ρ H} kb => ?_) rfl codeAny_compStart_dict ⟨k', v', tg, it', ifs', scope, p, rfl, mk, mv, mt, mi⟩ cf hk e2 vr1.1 (a.go g1 hr1) (post_none (s := Sh s h' t1) hr1 (ct.go g1))
 refine ⟨beq_false_of_ne fun z => ?_, .inl ⟨[], ⟨_, #[], Heap.get?_push_size _ rfl, ⟨rfl, rfl, rfl⟩, rfl, fun _ he => by simp at he, Pairs.nil, List.nodup_nil⟩, trivial⟩⟩
 obtain ⟨ob, q⟩ := ok.sysm
 have := kb _ _ q
 rw [← z, dead_end H (Nat.le_refl _)] at this
 cases this
end
section
variable {prog : Program} {w : World} {A : Around} {s : Shared}
theorem while_step {R : Result → Shared → Prop} {test : PySem.Expr} {body : List Stmt} {env : Env} {E : Value → Shared → Prop} (hE : E = notedBy (model prog w) A env fun e s' => R (.error e) s')
  (h : wpAny (model prog w) A (isTrue test env (eval test env)) (fun b s₂ => match b with
   | true => wpAny (model prog w) A (execs body env) (fun f s₃ => match f with
     | .next | .cont => codeAny (model prog w) A (.whileLoop test body [] env) R s₃
     | .brk => R (.ok .next) s₃
     | .ret v => R (.ok (.ret v)) s₃) E s₂
   | false => R (.ok .next) s₂) E s) :
  codeAny (model prog w) A (.whileLoop test body [] env) R s := by
 refine codeAny_of_tree ?_
 show wpAny _ A ((whileTurn test body [] env).onRaise (fun x => do noteFrame x env; theTreesLotGoes x)) _ _ s
 refine wpAny_noted ?_
 unfold whileTurn
 subst hE
 refine wpAny_bind (wpAny_mono h (fun b s₂ h₂ => ?_) fun _ _ h' => h')
 cases b with
 | false =>
  rw [if_neg Bool.false_ne_true]
  exact wpAny_bind (wpAny_execs_nil (wpAny_pure h₂))
 | true =>
  rw [if_pos rfl]
  refine wpAny_bind (wpAny_mono h₂ (fun f s₃ h₃ => ?_) fun _ _ h' => h')
  cases f with
  | next => exact wpAny_pure ⟨rfl, h₃⟩
  | cont => exact wpAny_pure ⟨rfl, h₃⟩
  | brk => exact wpAny_pure h₃
  | ret v => exact wpAny_pure h₃
end
noncomputable def Wl (c : Cx) (t : PE) (b : PSs) (d : Nat) (loc : Loc) (T : Hp) (f : Fl) (T' : Hp) : Prop :=
 ∀ (test : PySem.Expr) (body : List Stmt) (env : Env) (A : Around) (s : Shared) (ρ δ : Nat → Addr) (R : Result → Shared → Prop), ME t env.kindOf test → MSs b env.kindOf body → At c d loc T env A s ρ δ → Kf c env s ρ δ T T' f (fun f s' => R (.ok f) s') → codeAny (model c.prog c.w) A (.whileLoop test body [] env) R s
section
variable {c : Cx} {d : Nat} {loc loc1 : Loc} {T T1 T2 T3 : Hp} {t : PE} {b hb : PSs} {f : Fl} {v : AV} {cl x : Nat}
theorem W_end (e1 : Tr c t d loc T false T1) : Wl c t b d loc T (.nxt loc) T1 := by
 intro test body env A s ρ δ R me mb a ct
 exact while_step rfl (e1 _ env A s ρ δ _ _ me a fun ρ1 δ1 h' t1 g1 hr1 => ct ρ1 δ1 h' t1 g1.any hr1 (a.fr.go g1))
theorem W_next (e1 : Tr c t d loc T true T1) (e2 : Ex c b d loc T1 (.nxt loc1) T2) (e3 : Wl c t b d loc1 T2 f T3) : Wl c t b d loc T f T3 := by
 intro test body env A s ρ δ R me mb a ct
 refine while_step rfl (e1 _ env A s ρ δ _ _ me a fun ρ1 δ1 h' t1 g1 hr1 => ?_)
 refine e2 _ env A (Sh s h' t1) ρ1 δ1 _ _ mb (a.go g1 hr1) fun ρ2 δ2 h2 t2 g2 hr2 fr2 => ?_
 exact e3 _ _ env A (Sh s h2 t2) ρ2 δ2 R me mb ⟨fr2, hr2, a.ro, a.fgo (g1.any.trans g2)⟩ (ct.go (g1.any.trans g2))
theorem W_ret (e1 : Tr c t d loc T true T1) (e2 : Ex c b d loc T1 (.ret v) T2) : Wl c t b d loc T (.ret v) T2 := by
 intro test body env A s ρ δ R me mb a ct
 refine while_step rfl (e1 _ env A s ρ δ _ _ me a fun ρ1 δ1 h' t1 g1 hr1 => ?_)
 exact e2 _ env A (Sh s h' t1) ρ1 δ1 _ _ mb (a.go g1 hr1) fun ρ2 δ2 h2 t2 val g2 hr2 vr2 => ct ρ2 δ2 h2 t2 val (g1.any.trans g2) hr2 vr2
theorem R_whl (e1 : Wl c t b d loc T f T1) : St c (.whl t b) d loc T f T1 := by
 rintro _ env A s ρ δ Q E ⟨t', b', p, rfl, mt, mb⟩ a ct
 exact wpAny_While (e1 _ _ env A s ρ δ _ mt mb a ct)
theorem R_try (e1 : Ex c b d loc T f T1) : St c (.try b cl x hb) d loc T f T1 := by
 rintro _ env A s ρ δ Q E ⟨b', np, h', hp, p, rfl, mb, _⟩ a ct
 refine wpAny_Try_except (e1 _ env A s ρ δ _ _ mb a ?_)
 cases f with
 | nxt l => exact fun ρ' δ' h' t' g r f => wpAny_execs_nil (ct ρ' δ' h' t' g r f)
 | ret v => exact ct
end
end Mine
end
section
open PySem PySem.W PyProof.Rows
namespace Mine
section
variable {prog : Program} {w : World} {A : Around} {s : Shared} {env : Env} {Q E : Value → Shared → Prop}
theorem wp_SliceAny {value : PySem.Expr} {lower upper : Option PySem.Expr} {p pos : Pos}
  (h : wpAny (model prog w) A (eval value env) (fun o s₁ => wpAny (model prog w) A (evalPart lower env) (fun vl s₂ => wpAny (model prog w) A (evalPart upper env) (fun vu s₃ =>
   ∃ T id, typeLookup (.type T) "__getitem__" = pure (some (.builtin id)) ∧ Shared.TypeIs { s₃ with heap := s₃.heap.push { cls := .type "slice", data := .fields #[vl, vu, .none] } } o T ∧
    wpAny (model prog w) A (getItem o (.ref s₃.heap.objs.size)) Q E { s₃ with heap := s₃.heap.push { cls := .type "slice", data := .fields #[vl, vu, .none] } }) E s₂) E s₁) E s) :
  wpAny (model prog w) A (eval (.Subscript value (.Slice lower upper none p) pos) env) Q E s := by
 rw [eval_Subscript]
 refine wpAny_bind (wpAny_mono h (fun o s₁ h₁ => wpAny_bind (wpAny_holding (wpAny_Slice (wpAny_mono h₁ (fun vl s₂ h₂ => wpAny_mono h₂ (fun vu s₃ h₃ => ?_) fun _ _ x => x) fun _ _ x => x)))) fun _ _ x => x)
 rw [evalPart_none]
 refine wpAny_pure ?_
 refine wpAny_bind (wpAny_standAt ?_)
 obtain ⟨T, id, hl, hT, hg⟩ := h₃
 refine wpAny_bind ?_
 rw [getitemInPython_of_ne hT.not_modules]
 refine wpAny_bind (wpAny_specialOf hT hl ?_)
 have fin := fun (i : Value) (hi : wpAny (model prog w) A (getItem o i) Q E { s₃ with heap := s₃.heap.push { cls := .type "slice", data := .fields #[vl, vu, .none] } }) =>
  (wpAny_bind (wpAny_operating (vs := [i, o]) (wpAny_mono hi (fun r s₃ h₃ => wpAny_bind (wpAny_letTemporaryGo (base := value) (o := o) (wpAny_pure h₃))) fun _ _ x => x)) : wpAny (model prog w) A (subscripted (.Slice lower upper none p) false o i >>= fun r => letTemporaryGo value o r >>= fun _ => pure r) Q E _)
 first
  | exact wpAny_pure (fin _ hg)
  | exact fin _ hg
end
noncomputable def cut (n : Nat) (i : Int) : Nat := match i with
 | .ofNat k => min k n
 | .negSucc k => n - (k + 1)
noncomputable def cutL {α : Type} (up : Bool) (i : Int) (l : List α) : List α := cond up (l.take (cut l.length i)) (l.drop (cut l.length i))
theorem cut_clip (n : Nat) (i : Int) : max 0 (min (if i < 0 then i + (n : Int) else i) n) = ((cut n i : Nat) : Int) := by
 cases i with
 | ofNat k =>
  rw [if_neg (show ¬ (Int.ofNat k < 0) from Int.not_lt.mpr (Int.natCast_nonneg k))]
  show max 0 (min (k : Int) n) = ((min k n : Nat) : Int)
  omega
 | negSucc k =>
  rw [if_pos (Int.negSucc_lt_zero k)]
  show _ = ((n - (k + 1) : Nat) : Int)
  omega
theorem cut_le (n : Nat) (i : Int) : cut n i ≤ n := by
 cases i with
 | ofNat k => exact Nat.min_le_right k n
 | negSucc k => exact Nat.sub_le n (k + 1)
theorem cut_up {α : Type} (k : Nat) (l : List α) : cutL true (k : Int) l = l.take k := by
 show l.take (min k l.length) = _
 by_cases h : k ≤ l.length
 ·rw [Nat.min_eq_left h]
 ·rw [Nat.min_eq_right (Nat.le_of_not_le h), List.take_length, List.take_of_length_le (Nat.le_of_not_le h)]
theorem cut_dn {α : Type} (k : Nat) (l : List α) : cutL false (k : Int) l = l.drop k := by
 show l.drop (min k l.length) = _
 by_cases h : k ≤ l.length
 ·rw [Nat.min_eq_left h]
 ·rw [Nat.min_eq_right (Nat.le_of_not_le h), List.drop_length, List.drop_eq_nil_of_le (Nat.le_of_not_le h)]
theorem pick_any (items : Array Value) (up : Bool) (i : Int) : slicePick items (cond up none (some i)) (cond up (some i) none) none = (cutL up i items.toList).toArray := by
 cases up with
 | true =>
  have e : sliceBounds none (some i) none items.size = (((0 : Nat) : Int), ((cut items.size i : Nat) : Int), 1) := by
   simp only [sliceBounds, Option.getD_none, show (1 : Int) > 0 by decide, if_true]
   rw [cut_clip]; rfl
  show slicePick items none (some i) none = _
  unfold slicePick
  rw [e]
  simp only [sliceRange_one, pick_run]
  simp [cutL]
 | false =>
  have e : sliceBounds (some i) none none items.size = (((cut items.size i : Nat) : Int), ((items.size : Nat) : Int), 1) := by
   simp only [sliceBounds, Option.getD_none, show (1 : Int) > 0 by decide, if_true]
   rw [cut_clip]
  show slicePick items (some i) none none = _
  unfold slicePick
  rw [e]
  simp only [sliceRange_one, pick_run]
  rw [List.take_of_length_le (by simp)]
  simp [cutL]
theorem S_len (x : List Nat) : (S x).length = x.length := by simp [Str.length]
theorem txt_of (x : List Nat) (l u : Option Int) (a b : Nat) (hb : b ≤ x.length) (e : Builtin.Str.strSliceIndices l u 1 (S x).length = (List.range (b - a)).map (a + ·)) : Txt.slice (S x) l u = S ((x.drop a).take (b - a)) := by
 unfold Txt.slice
 rw [e]
 split
 ·rename_i q
  simp only [beq_self_eq_true, Bool.true_and, List.length_map, List.length_range, beq_iff_eq, S_len] at q
  rcases Nat.eq_zero_or_pos x.length with z | z
  ·have : x = [] := List.eq_nil_of_length_eq_zero z
   subst this; simp
  ·have : a = 0 := by omega
   subst this
   rw [List.drop_zero, List.take_of_length_le (by omega)]
 ·show (⟨_⟩ : Str) = ⟨_⟩
  rw [pick_run]
theorem txt_any (x : List Nat) (up : Bool) (i : Int) : Txt.slice (S x) (cond up none (some i)) (cond up (some i) none) = S (cutL up i x) := by
 cases up with
 | true =>
  show Txt.slice (S x) none (some i) = S (x.take _)
  rw [txt_of x none (some i) 0 (cut x.length i) (cut_le _ _) ?_]
  ·simp
  ·rw [S_len]
   unfold Builtin.Str.strSliceIndices
   simp only [show (1 : Int) > 0 by decide, if_true]
   rw [cut_clip]
   exact sliceRange_one 0 _
 | false =>
  show Txt.slice (S x) (some i) none = S (x.drop _)
  rw [txt_of x (some i) none (cut x.length i) x.length (Nat.le_refl _) ?_]
  ·rw [List.take_of_length_le (by simp)]
  ·rw [S_len]
   unfold Builtin.Str.strSliceIndices
   simp only [show (1 : Int) > 0 by decide, if_true]
   rw [cut_clip, sliceRange_one]
theorem VRs.take {n : Nat} {ρ : Nat → Addr} {a : List AV} {v : List Value} (k : Nat) (h : VRs n ρ a v) : VRs n ρ (a.take k) (v.take k) := by
 induction k generalizing a v with
 | zero => trivial
 | succ k ih => cases a with
  | nil => cases v with
   | nil => trivial
   | cons => exact h.elim
  | cons x a => cases v with
   | nil => exact h.elim
   | cons y v => exact ⟨h.1, ih h.2⟩
theorem VRs.cut {n : Nat} {ρ : Nat → Addr} {a : List AV} {v : List Value} (up : Bool) (i : Int) (h : VRs n ρ a v) : VRs n ρ (cutL up i a) (cutL up i v) := by
 cases up with
 | true => show VRs n ρ (a.take _) (v.take _); rw [h.len]; exact h.take _
 | false => show VRs n ρ (a.drop _) (v.drop _); rw [h.len]; exact h.drop _
noncomputable def slA (up : Bool) (vb : Value) : Array Value := cond up #[.none, vb, .none] #[vb, .none, .none]
noncomputable abbrev slS (s : Shared) (up : Bool) (vb : Value) : Shared := { s with heap := s.heap.push { cls := .type "slice", data := .fields (slA up vb) } }
noncomputable def Sl (c : Cx) (up : Bool) (a b : AV) (T : Hp) (v : AV) (T' : Hp) : Prop :=
 ∀ (A : Around) (s : Shared) (ρ δ : Nat → Addr) (va vb : Value) (Q E : Value → Shared → Prop), HR c ρ δ T T.n s.heap → VR T.n ρ a va → VR T.n ρ b vb → Kv c s ρ δ T T' v Q →
  ∃ Tn id, typeLookup (.type Tn) "__getitem__" = pure (some (.builtin id)) ∧ (slS s up vb).TypeIs va Tn ∧ wpAny (model c.prog c.w) A (getItem va (.ref s.heap.objs.size)) Q E (slS s up vb)
section
variable {c : Cx} {d : Nat} {loc : Loc} {T T1 T2 T3 : Hp} {a b v : AV} {o i : PE} {up : Bool} {r : Nat} {xs ys : List AV} {k : Int} {l m : List Nat} {ao : AO}
theorem R_slice (e1 : Ev c o d loc T a T1) (e2 : Ev c i d loc T1 b T2) (e3 : Sl c up a b T2 v T3) : Ev c (.slice o up i) d loc T v T3 := by
 rintro _ env A s ρ δ Q E ⟨o', i', sp, p, rfl, mo, mi⟩ at' ct
 have k : ∀ ρ1 δ1 h1 t1 va, Go c No ρ δ T.n s.heap ρ1 δ1 T1.n h1 → HR c ρ1 δ1 T1 T1.n h1 → VR T1.n ρ1 a va → wpAny (model c.prog c.w) A (eval i' env) (fun vb s₂ => ∃ Tn id, typeLookup (.type Tn) "__getitem__" = pure (some (.builtin id)) ∧ (slS s₂ up vb).TypeIs va Tn ∧ wpAny (model c.prog c.w) A (getItem va (.ref s₂.heap.objs.size)) Q E (slS s₂ up vb)) E (Sh s h1 t1) :=
  fun ρ1 δ1 h1 t1 va g1 hr1 vr1 => e2 _ env A (Sh s h1 t1) ρ1 δ1 _ E mi (at'.go g1 hr1) fun ρ2 δ2 h2 t2 vb g2 hr2 vr2 => e3 A (Sh s h2 t2) ρ2 δ2 va vb Q E hr2 (g2.vr vr1) vr2 (ct.go (g1.trans g2))
 cases up with
 | true => exact wp_SliceAny (e1 _ env A s ρ δ _ E mo at' fun ρ1 δ1 h1 t1 va g1 hr1 vr1 => wpAny_pure (k ρ1 δ1 h1 t1 va g1 hr1 vr1))
 | false => exact wp_SliceAny (e1 _ env A s ρ δ _ E mo at' fun ρ1 δ1 h1 t1 va g1 hr1 vr1 => wpAny_mono (k ρ1 δ1 h1 t1 va g1 hr1 vr1) (fun _ _ z => wpAny_pure z) fun _ _ z => z)
theorem S_str (q : l.length < 4000) (e : cutL up k l = m) : Sl c up (.str l) (.int k) T (.str m) T := by
 intro A s ρ δ va vb Q E hr ra rb ct
 obtain ⟨t, rfl⟩ := ra
 obtain ⟨ti, rfl⟩ := rb
 have kp : ∀ ob b o, s.heap.get? b = some o → (s.heap.push ob).get? b = some o := fun ob b o e => Heap.get?_push_of_some _ e
 have hz : (S l).length ≤ sizeLine := by rw [S_len]; exact szl q
 refine ⟨"str", _, PySem.F.slot_str_getitem.lookup, typeIs_str _ _ _, ?_⟩
 have e := e ▸ txt_any l up k
 cases up with
 | true =>
  refine wpAny_getItem_str_slice (l := none) (u := some (k, ti)) (st := none) ⟨_, Heap.get?_push_size _ rfl, rfl, rfl⟩ rfl (post_val_or_str ⟨Nat.le_trans (Txt.slice_le (S l) none (some k)) hz, fun t' k => ?_⟩)
  exact ct ρ δ _ k _ (Go.of_keeps (kp _)) (hr.of_keeps (kp _)) ⟨t', congrArg (Value.str · t') e⟩
 | false =>
  refine wpAny_getItem_str_slice (l := some (k, ti)) (u := none) (st := none) ⟨_, Heap.get?_push_size _ rfl, rfl, rfl⟩ rfl (post_val_or_str ⟨Nat.le_trans (Txt.slice_le (S l) (some k) none) hz, fun t' k => ?_⟩)
  exact ct ρ δ _ k _ (Go.of_keeps (kp _)) (hr.of_keeps (kp _)) ⟨t', congrArg (Value.str · t') e⟩
theorem Kv.far {s : Shared} {ρ δ : Nat → Addr} {Q : Value → Shared → Prop} {ob1 ob2 : Obj} {t : Nat} (ct : Kv c s ρ δ T (hnew T ao) (.ref T.n) Q) (hr : HR c ρ δ T T.n s.heap) (hf : ob2.isFreed = false)
  (or : OR c (T.n + 1) (ext ρ T.n (s.heap.push ob1).objs.size) ((s.heap.push ob1).push ob2) (s.heap.push ob1).objs.size (s.heap.push ob1).objs.size ao) : Q (.ref (s.heap.push ob1).objs.size) (Sh s ((s.heap.push ob1).push ob2) t) := by
 have dead : s.heap.get? (s.heap.push ob1).objs.size = none := dead_end _ (by rw [Heap.size_push]; exact Nat.le_succ _)
 have lv : Live ((s.heap.push ob1).push ob2) (s.heap.push ob1).objs.size := ⟨_, Heap.get?_push_size _ hf⟩
 obtain ⟨r1, g1⟩ := hr.grow (X := No) (get_hnew T ao) dead dead lv lv (fun b o e => Heap.get?_push_of_some _ (Heap.get?_push_of_some _ e)) or
 exact ct _ _ _ t _ g1 r1 ⟨Nat.lt_succ_self _, by rw [ext_at]⟩
theorem S_list (ho : T.get r = some (.list xs)) (q : xs.length < 4000) (e : cutL up k xs = ys) : Sl c up (.ref r) (.int k) T (.ref T.n) (hnew T (.list ys)) := by
 intro A s ρ δ va vb Q E hr ra rb ct
 obtain ⟨ti, rfl⟩ := rb
 obtain ⟨lt, vals, kk, h1, h2⟩ := hr.obj _ _ ho
 have hl : s.heap.IsList (ρ r) vals.toArray := ⟨_, h1, rfl, kk, rfl⟩
 rw [h2.len] at q
 have hz : vals.toArray.size ≤ sizeLine := by rw [List.size_toArray]; exact szl (by first | assumption | omega)
 have hc := e ▸ h2.cut up k
 have e' := pick_any vals.toArray up k
 rw [ra.2]
 refine ⟨"list", _, list_getitem_lookup, (hl.push _).typeIs, ?_⟩
 cases up with
 | true =>
  refine wpAny_getItem_list_slice (hl.push _) (Heap.IsSliceOf.new ..) .none (.int k ti) .none (by simp) ?_ hz
  dsimp only
  rw [show slicePick vals.toArray none (some k) none = _ from e']
  exact ct.far (s := s) (t := s.toks) hr rfl ⟨_, 0, Heap.get?_push_size _ rfl, ext_vrs hc⟩
 | false =>
  refine wpAny_getItem_list_slice (hl.push _) (Heap.IsSliceOf.new ..) (.int k ti) .none .none (by simp) ?_ hz
  dsimp only
  rw [show slicePick vals.toArray (some k) none none = _ from e']
  exact ct.far (s := s) (t := s.toks) hr rfl ⟨_, 0, Heap.get?_push_size _ rfl, ext_vrs hc⟩
theorem S_tuple {k : Nat} (ho : T.get r = some (.tuple xs)) (q : xs.length < 4000) (q0 : 1 ≤ k) (q1 : k ≤ xs.length) : Sl c false (.ref r) (.int (k : Int)) T (.ref T.n) (hnew T (.tuple (xs.drop k))) := by
 intro A s ρ δ va vb Q E hr ra rb ct
 obtain ⟨ti, rfl⟩ := rb
 obtain ⟨lt, vals, kk, h1, h2⟩ := hr.obj _ _ ho
 rw [h2.len] at q q1
 have hz : vals.toArray.size ≤ sizeLine := by rw [List.size_toArray]; exact szl (by first | assumption | omega)
 have ht : ∀ ob, IsTup (s.heap.push ob) (ρ r) vals.toArray := fun ob => ⟨_, Heap.get?_push_of_some _ h1, rfl, kk, rfl⟩
 rw [ra.2]
 refine ⟨"tuple", _, F.slot_tuple_getitem.lookup, ⟨_, Heap.get?_push_of_some _ h1, rfl⟩, ?_⟩
 refine getItem_tuple_from (a := k) (u := ti) (ht _) (Heap.IsSliceOf.new ..) (by omega) (by simpa using q1) ?_ hz
 refine ct.far (s := s) (t := s.toks) hr rfl ⟨_, 0, Heap.get?_push_size _ rfl, ?_⟩
 have := h2.drop k
 simpa using ext_vrs this
end
end Mine
end
section
open PySem PySem.W PyProof.Rows
namespace Mine
section
variable {c : Cx} {T : Hp} {x y : Int} {l m : List Nat} {k r r' : Nat} {xs ys : List AV}
theorem B_addI : Bi c .add (.int x) (.int y) T (.int (x + y)) T := by
 rintro A s ρ δ _ _ Q E hr ⟨t, rfl⟩ ⟨u, rfl⟩ ct
 exact P.add_int (ct ρ δ s.heap _ _ Go.refl hr ⟨_, rfl⟩)
theorem B_subI : Bi c .sub (.int x) (.int y) T (.int (x - y)) T := by
 rintro A s ρ δ _ _ Q E hr ⟨t, rfl⟩ ⟨u, rfl⟩ ct
 exact P.sub_int (ct ρ δ s.heap _ _ Go.refl hr ⟨_, rfl⟩)
theorem B_modI (h1 : 0 < y) : Bi c .mod (.int x) (.int y) T (.int (Int.fmod x y)) T := by
 rintro A s ρ δ _ _ Q E hr ⟨t, rfl⟩ ⟨u, rfl⟩ ct
 exact mod_int' (by omega) (ct ρ δ s.heap _ _ Go.refl hr ⟨_, rfl⟩)
theorem B_addS (h : l.length + m.length < 4000) : Bi c .add (.str l) (.str m) T (.str (l ++ m)) T := by
 rintro A s ρ δ _ _ Q E hr ⟨t, rfl⟩ ⟨u, rfl⟩ ct
 refine PyProof.Rows.add_str (fun t' tk => ct ρ δ s.heap tk _ Go.refl hr ⟨t', ?_⟩) ?_
 ·show Value.str (⟨l.toArray ++ m.toArray⟩ : Str) t' = Value.str ⟨(l ++ m).toArray⟩ t'
  rw [List.append_toArray]
 ·rw [S_len, S_len]; exact szl h
theorem B_addL (h1 : T.get r = some (.list xs)) (h2 : T.get r' = some (.list ys)) (h : xs.length + ys.length < 4000) : Bi c .add (.ref r) (.ref r') T (.ref T.n) (hnew T (.list (xs ++ ys))) := by
 intro A s ρ δ va vb Q E hr ra rb ct
 obtain ⟨_, vs, k1, q1, w1⟩ := hr.obj _ _ h1
 obtain ⟨_, us, k2, q2, w2⟩ := hr.obj _ _ h2
 rw [w1.len, w2.len] at h
 rw [ra.2, rb.2]
 refine P.add_list q1 q2 ?_ (by simp only [List.size_toArray]; exact szl h)
 rw [List.append_toArray]
 exact ct.push (t := s.toks) hr rfl ⟨vs ++ us, 0, Heap.get?_push_size _ rfl, ext_vrs (w1.append w2)⟩
end
end Mine
end
section
open PySem PySem.W PyProof.Rows
namespace Mine
noncomputable def Ty.eq (a b : Ty) : Bool := decide (a.nm = b.nm)
noncomputable def sq (a b : AV) : Bool := match b with
 | .int y => (match a with | .int x => decide (x = y) | _ => false)
 | .str y => (match a with | .str x => decide (x = y) | _ => false)
 | .typ y => (match a with | .typ x => x.eq y | _ => false)
 | _ => false
noncomputable def kin (a b : AV) : Bool := match b with
 | .int _ => (match a with | .int _ => true | _ => false)
 | .str _ => (match a with | .str _ => true | _ => false)
 | .typ _ => (match a with | .typ _ => true | _ => false)
 | _ => false
theorem kin_cases {P : AV → AV → Prop} {a b : AV} (k : kin a b = true) (h1 : ∀ x y, P (.int x) (.int y)) (h2 : ∀ x y, P (.str x) (.str y)) (h3 : ∀ x y, P (.typ x) (.typ y)) : P a b := by
 cases b with
 | int y => cases a with
  | int x => exact h1 x y
  | _ => cases k
 | str y => cases a with
  | str x => exact h2 x y
  | _ => cases k
 | typ y => cases a with
  | typ x => exact h3 x y
  | _ => cases k
 | _ => cases k
theorem int_b (x y : Int) : decide (x = y) = (x == y) := by rw [Bool.eq_iff_iff, beq_iff_eq, decide_eq_true_eq]
theorem str_b (x y : List Nat) : decide (x = y) = (S x == S y) := by
 rw [Bool.eq_iff_iff, beq_iff_eq, decide_eq_true_eq]
 exact ⟨fun h => by rw [h], fun h => S_inj h⟩
theorem Ty.meta (t : Ty) (s : Shared) : s.TypeIs (.type t.nm) "type" := by
 cases t <;> (show typeOf _ = _; kernel_rfl)
theorem Ty.nm_eq (a b : Ty) : (Value.type a.nm == Value.type b.nm) = a.eq b := by cases a <;> cases b <;> kernel_rfl
theorem eqAt_type (a b : Ty) (A : Around) (s : Shared) : SeqAt.EqAt A s (.type a.nm) (.type b.nm) (a.eq b) := by
 cases q : a.eq b with
 | true => rw [of_decide_eq_true q]; exact SeqAt.EqAt.same _
 | false =>
  intro prog w E Q h
  unfold eqBool
  refine wpAny_holding ?_
  refine wpAny_ite_split (fun hab => absurd hab (by rw [Ty.nm_eq, q]; exact Bool.false_ne_true)) (fun _ => ?_)
  exact wpAny_bind (TypeEq.eq_type_other (fun s' => a.meta s') (fun s' => b.meta s') (by rw [Ty.nm_eq, q]) (wpAny_truthy_bool h))
theorem sq_at {n : Nat} {ρ : Nat → Addr} {a b : AV} {va vb : Value} {A : Around} {s : Shared} (k : kin a b = true) : VR n ρ a va → VR n ρ b vb → SeqAt.EqAt A s va vb (sq a b) := by
 refine kin_cases (P := fun a b => VR n ρ a va → VR n ρ b vb → SeqAt.EqAt A s va vb (sq a b)) k ?_ ?_ ?_
 ·rintro x y ⟨_, rfl⟩ ⟨_, rfl⟩
  show SeqAt.EqAt _ _ _ _ (decide _); rw [int_b]; exact SeqAt.EqAt.int_int _ _ _ _
 ·rintro x y ⟨_, rfl⟩ ⟨_, rfl⟩
  show SeqAt.EqAt _ _ _ _ (decide _); rw [str_b]; exact SeqAt.EqAt.str_str _ _ _ _
 ·intro x y ra rb
  rw [ra, rb]; exact eqAt_type _ _ _ _
noncomputable def Eqt (c : Cx) (T : Hp) (f : Nat) (a b : AV) : Prop :=
 ∀ (ρ δ : Nat → Addr) (s : Shared) (A : Around) (va vb : Value), HR c ρ δ T T.n s.heap → A.units + f < cLine → VR T.n ρ a va → VR T.n ρ b vb → SeqAt.EqAt A s va vb true
noncomputable def EqtL (c : Cx) (T : Hp) (f : Nat) (xs ys : List AV) : Prop := xs.length = ys.length ∧ ∀ (j : Nat) (x y : AV), xs[j]? = some x → ys[j]? = some y → Eqt c T f x y
theorem VRs.get {n : Nat} {ρ : Nat → Addr} {a : List AV} {v : List Value} (h : VRs n ρ a v) {i : Nat} (hi : i < v.toArray.size) : ∃ x, a[i]? = some x ∧ VR n ρ x v.toArray[i] := by
 have hl : i < a.length := by rw [h.len]; simpa using hi
 obtain ⟨y, h1, h2⟩ := h.at (List.getElem?_eq_getElem hl)
 refine ⟨_, List.getElem?_eq_getElem hl, ?_⟩
 have : v.toArray[i] = y := by
  have q : i < v.length := by simpa using hi
  rw [List.getElem?_eq_getElem q] at h1
  simpa using Option.some.inj h1
 rw [this]; exact h2
section
variable {c : Cx} {T : Hp} {f : Nat} {a b : AV} {xs ys : List AV} {r r' : Nat} {t : Bool} {es : List (AV × AV)} {ep : Nat}
theorem Eq_same : Eqt c T f a a := by
 intro ρ δ s A va vb hr hu ra rb
 cases a with
 | int i => obtain ⟨t, rfl⟩ := ra; obtain ⟨u, rfl⟩ := rb; have := SeqAt.EqAt.int_int (A := A) (s := s) i t i u; rwa [beq_self_eq_true] at this
 | str l => obtain ⟨t, rfl⟩ := ra; obtain ⟨u, rfl⟩ := rb; have := SeqAt.EqAt.str_str (A := A) (s := s) (S l) t (S l) u; rwa [beq_self_eq_true] at this
 | ref r => rw [ra.2, rb.2]; exact SeqAt.EqAt.same _
 | _ => cases ra; cases rb; exact SeqAt.EqAt.same _
theorem EqL_nil : EqtL c T f [] [] := ⟨rfl, fun j x y h => (by simp at h)⟩
theorem EqL_cons (h1 : Eqt c T f a b) (h2 : EqtL c T f xs ys) : EqtL c T f (a :: xs) (b :: ys) :=
 ⟨congrArg (· + 1) h2.1, fun j x y q1 q2 => by
  cases j with
  | zero => cases q1; cases q2; exact h1
  | succ j => exact h2.2 j x y q1 q2⟩
theorem EqL_same : EqtL c T f xs xs := ⟨rfl, fun j x y q1 q2 => by rw [q1] at q2; cases q2; exact Eq_same⟩
theorem eqts {A : Around} {s : Shared} {ρ δ : Nat → Addr} (q : EqtL c T f xs ys) (o : (T.get r = some (.tuple xs) ∧ T.get r' = some (.tuple ys)) ∨ (T.get r = some (.list xs) ∧ T.get r' = some (.list ys))) (hr : HR c ρ δ T T.n s.heap) (hu : A.units + (f + 1) < cLine) :
  SeqAt.RcAt A s (.ref (ρ r)) (.ref (ρ r')) true ∧ SeqAt.RcNeAt A s (.ref (ρ r)) (.ref (ρ r')) false := by
 have hu1 : A.units < cLine := by omega
 have hu2 : A.in1.units + f < cLine := by have : A.in1.units = A.units + 1 := rfl; omega
 have each : ∀ {vs us : List Value}, VRs T.n ρ xs vs → VRs T.n ρ ys us → ∀ j (h1 : j < vs.toArray.size) (h2 : j < us.toArray.size), SeqAt.EqAt A.in1 s vs.toArray[j] us.toArray[j] true := fun w1 w2 j g1 g2 => by
  obtain ⟨a, q1, r1⟩ := w1.get g1
  obtain ⟨b, q2, r2⟩ := w2.get g2
  exact q.2 j a b q1 q2 ρ δ s _ _ _ hr hu2 r1 r2
 rcases o with ⟨h1, h2⟩ | ⟨h1, h2⟩
 ·obtain ⟨vs, k, p1, w1⟩ := (hr.obj _ _ h1).2
  obtain ⟨us, k', p2, w2⟩ := (hr.obj _ _ h2).2
  have i1 : s.heap.IsTuple (ρ r) vs.toArray := ⟨_, p1, rfl, k, rfl⟩
  have i2 : s.heap.IsTuple (ρ r') us.toArray := ⟨_, p2, rfl, k', rfl⟩
  have e : vs.toArray.size = us.toArray.size := by rw [List.size_toArray, List.size_toArray, ← w1.len, ← w2.len]; exact q.1
  have a1 := SeqAt.RcAt.tuples i1 i2 hu1 (each w1 w2)
  have a2 := SeqAt.RcNeAt.tuples i1 i2 hu1 (each w1 w2)
  rw [show ((List.range (min vs.toArray.size us.toArray.size)).all (fun _ => true) && vs.toArray.size == us.toArray.size) = true by rw [e]; simp] at a1 a2
  exact ⟨a1, a2⟩
 ·obtain ⟨vs, k, p1, w1⟩ := (hr.obj _ _ h1).2
  obtain ⟨us, k', p2, w2⟩ := (hr.obj _ _ h2).2
  have i1 : s.heap.IsList (ρ r) vs.toArray := ⟨_, p1, rfl, k, rfl⟩
  have i2 : s.heap.IsList (ρ r') us.toArray := ⟨_, p2, rfl, k', rfl⟩
  have e : vs.toArray.size = us.toArray.size := by rw [List.size_toArray, List.size_toArray, ← w1.len, ← w2.len]; exact q.1
  have a1 := SeqAt.RcAt.lists i1 i2 e hu1 (each w1 w2)
  have a2 := SeqAt.RcNeAt.lists i1 i2 e hu1 (each w1 w2)
  rw [show (List.range vs.toArray.size).all (fun _ => true) = true by simp] at a1 a2
  exact ⟨a1, a2⟩
theorem Eq_seq (o : (T.get r = some (.tuple xs) ∧ T.get r' = some (.tuple ys)) ∨ (T.get r = some (.list xs) ∧ T.get r' = some (.list ys))) (q : EqtL c T f xs ys) : Eqt c T (f + 1) (.ref r) (.ref r') := by
 intro ρ δ s A va vb hr hu ra rb
 by_cases e : r = r'
 ·subst e; rw [ra.2, rb.2]; exact SeqAt.EqAt.same _
 ·rw [ra.2, rb.2]
  exact SeqAt.EqAt.of_refs (hr.apart r r' ra.1 rb.1 e).1 (eqts q o hr hu).1
theorem units_ok {d : Nat} {A : Around} (ro : Room d A) (h : f < 900) : A.units + (f + 1) < cLine := by have := ro.2.1; unfold cLine; omega
theorem C_eqR (h : f < 900) (o : (T.get r = some (.tuple xs) ∧ T.get r' = some (.tuple ys)) ∨ (T.get r = some (.list xs) ∧ T.get r' = some (.list ys))) (q : EqtL c T f xs ys) : Cm c .eq (.ref r) (.ref r') T true := by
 intro d A s ρ δ va vb Q E hr ro ra rb nx
 rw [ra.2, rb.2]
 exact (eqts q o hr (units_ok ro h)).1 _ _ _ _ (nx s.heap s.toks Go.refl hr)
noncomputable def pq : AV → AV → Option Bool
 | .none, .none => some true
 | .bool a, .bool b => some (decide (a = b))
 | .int a, .int b => some (decide (a = b))
 | .str a, .str b => some (decide (a = b))
 | .none, .int _ => some false
 | .int _, .none => some false
 | .none, .str _ => some false
 | .str _, .none => some false
 | _, _ => none
theorem pq_at {n : Nat} {ρ : Nat → Addr} {va vb : Value} {A : Around} {s : Shared} (e : pq a b = some t) (ra : VR n ρ a va) (rb : VR n ρ b vb) : SeqAt.RcAt A s va vb t ∧ SeqAt.RcNeAt A s va vb (!t) := by
 cases a with
 | none =>
  cases ra
  cases b with
  | none => cases e; cases rb; exact ⟨SeqAt.RcAt.none_none, SeqAt.RcNeAt.none_none⟩
  | int => cases e; obtain ⟨_, rfl⟩ := rb; exact ⟨SeqAt.RcAt.none_int _ _, SeqAt.RcNeAt.none_int _ _⟩
  | str => cases e; obtain ⟨_, rfl⟩ := rb; exact ⟨SeqAt.RcAt.none_str _ _, SeqAt.RcNeAt.none_str _ _⟩
  | _ => cases e
 | bool x =>
  cases ra
  cases b with
  | bool y =>
   cases rb
   have a1 := SeqAt.RcAt.bool_bool (A := A) (s := s) x y
   have a2 := SeqAt.RcNeAt.bool_bool (A := A) (s := s) x y
   cases e
   cases x <;> cases y <;> exact ⟨a1, a2⟩
  | _ => cases e
 | int x =>
  obtain ⟨_, rfl⟩ := ra
  cases b with
  | none => cases e; cases rb; exact ⟨SeqAt.RcAt.int_none _ _, SeqAt.RcNeAt.int_none _ _⟩
  | int y => cases e; obtain ⟨_, rfl⟩ := rb; rw [int_b]; exact ⟨SeqAt.RcAt.int_int _ _ _ _, SeqAt.RcNeAt.int_int _ _ _ _⟩
  | _ => cases e
 | str x =>
  obtain ⟨_, rfl⟩ := ra
  cases b with
  | none => cases e; cases rb; exact ⟨SeqAt.RcAt.str_none _ _, SeqAt.RcNeAt.str_none _ _⟩
  | str y => cases e; obtain ⟨_, rfl⟩ := rb; rw [str_b]; exact ⟨SeqAt.RcAt.str_str _ _ _ _, SeqAt.RcNeAt.str_str _ _ _ _⟩
  | _ => cases e
 | _ => cases e
theorem C_eq (e : pq a b = some t) : Cm c .eq a b T t := by
 intro d A s ρ δ va vb Q E hr ro ra rb nx
 exact (pq_at e ra rb).1 _ _ _ _ (nx s.heap s.toks Go.refl hr)
theorem C_ne (e : pq a b = some t) : Cm c .ne a b T (!t) := by
 intro d A s ρ δ va vb Q E hr ro ra rb nx
 exact (pq_at e ra rb).2 _ _ _ _ (nx s.heap s.toks Go.refl hr)
noncomputable def nn : AV → Bool
 | .none => false
 | .bi _ => false
 | _ => true
theorem nn_at {n : Nat} {ρ : Nat → Addr} {va : Value} (e : nn a = true) (ra : VR n ρ a va) : PySem.plainIs va .none = true ∧ va ≠ .none := by
 cases a with
 | none => cases e
 | bi => cases e
 | int => obtain ⟨_, rfl⟩ := ra; exact ⟨rfl, by intro z; cases z⟩
 | str => obtain ⟨_, rfl⟩ := ra; exact ⟨rfl, by intro z; cases z⟩
 | ref => obtain ⟨_, rfl⟩ := ra; exact ⟨rfl, by intro z; cases z⟩
 | _ => cases ra; exact ⟨rfl, by intro z; cases z⟩
theorem C_is0 : Cm c .is .none .none T true := by
 rintro d A s ρ δ _ _ Q E hr ro rfl rfl nx
 exact wpAny_is_self rfl (nx s.heap s.toks Go.refl hr)
theorem C_isnt0 : Cm c .isnt .none .none T false := by
 rintro d A s ρ δ _ _ Q E hr ro rfl rfl nx
 exact wpAny_isNot_self rfl (nx s.heap s.toks Go.refl hr)
theorem C_is1 (e : nn a = true) : Cm c .is a .none T false := by
 rintro d A s ρ δ va _ Q E hr ro ra rfl nx
 obtain ⟨h1, h2⟩ := nn_at e ra
 exact wpAny_is_other h1 h2 (nx s.heap s.toks Go.refl hr)
theorem C_isnt1 (e : nn a = true) : Cm c .isnt a .none T true := by
 rintro d A s ρ δ va _ Q E hr ro ra rfl nx
 obtain ⟨h1, h2⟩ := nn_at e ra
 exact wpAny_isNot_other h1 h2 (nx s.heap s.toks Go.refl hr)
theorem C_isntT {x y : Ty} : Cm c .isnt (.typ x) (.typ y) T (!x.eq y) := by
 rintro d A s ρ δ _ _ Q E hr ro rfl rfl nx
 exact wpAny_isNot_plain rfl (by rw [Ty.nm_eq]; exact nx s.heap s.toks Go.refl hr)
variable {x y : Int}
theorem C_lt : Cm c .lt (.int x) (.int y) T (decide (x < y)) := by
 rintro d A s ρ δ _ _ Q E hr ro ⟨_, rfl⟩ ⟨_, rfl⟩ nx
 exact P.lt_int (nx s.heap s.toks Go.refl hr)
theorem C_le : Cm c .le (.int x) (.int y) T (decide (x ≤ y)) := by
 rintro d A s ρ δ _ _ Q E hr ro ⟨_, rfl⟩ ⟨_, rfl⟩ nx
 exact P.le_int (nx s.heap s.toks Go.refl hr)
theorem C_gt : Cm c .gt (.int x) (.int y) T (decide (y < x)) := by
 rintro d A s ρ δ _ _ Q E hr ro ⟨_, rfl⟩ ⟨_, rfl⟩ nx
 exact P.gt_int (nx s.heap s.toks Go.refl hr)
end
noncomputable def eV (va v : Value) : Bool := match va with
 | .str p _ => (match v with | .str q _ => q == p | _ => false)
 | .int p _ => (match v with | .int q _ => q == p | _ => false)
 | _ => v == va
section
variable {c : Cx} {T : Hp} {a b : AV} {xs : List AV} {r : Nat} {t : Bool} {es : List (AV × AV)} {ep : Nat}
theorem eV_sq {n : Nat} {ρ : Nat → Addr} {va vb : Value} (k : kin b a = true) : VR n ρ a va → VR n ρ b vb → eV va vb = sq b a := by
 refine kin_cases (P := fun b a => VR n ρ a va → VR n ρ b vb → eV va vb = sq b a) k ?_ ?_ ?_
 ·rintro x y ⟨_, rfl⟩ ⟨_, rfl⟩
  exact (int_b _ _).symm
 ·rintro x y ⟨_, rfl⟩ ⟨_, rfl⟩
  exact (str_b _ _).symm
 ·intro x y ra rb
  rw [ra, rb]; exact Ty.nm_eq _ _
theorem in_key {n : Nat} {ρ : Nat → Addr} {va : Value} (ra : VR n ρ a va) (xs : List AV) : ∀ vs : List Value, VRs n ρ xs vs → xs.all (kin · a) = true → (∀ y ∈ vs, ∀ A s, SeqAt.EqAt A s y va (eV va y)) ∧ vs.any (eV va) = xs.any (sq · a) := by
 induction xs with
 | nil => intro vs h _; cases vs with
  | nil => exact ⟨fun y hy => (by cases hy), rfl⟩
  | cons => exact h.elim
 | cons x xs ih => intro vs h k; cases vs with
  | nil => exact h.elim
  | cons v vs =>
   rw [List.all_cons, Bool.and_eq_true] at k
   obtain ⟨z1, z2⟩ := ih vs h.2 k.2
   have e := eV_sq k.1 ra h.1
   refine ⟨fun y hy A s => ?_, by rw [List.any_cons, List.any_cons, e, z2]⟩
   cases hy with
   | head => rw [e]; exact sq_at k.1 h.1 ra
   | tail _ hy => exact z1 y hy A s
theorem in_tup {A : Around} {s : Shared} {n k : Nat} {ρ : Nat → Addr} {ad : Addr} {va : Value} {vs : List Value} {E : Value → Shared → Prop} {Q : Value → Shared → Prop} (hk : xs.all (kin · a) = true) (h1 : s.heap.get? ad = some { cls := .type "tuple", data := .seq vs.toArray k }) (h2 : VRs n ρ xs vs) (ra : VR n ρ a va) :
  (Q (.bool (xs.any (sq · a))) s → wpAny (model c.prog c.w) A (compareOp .In va (.ref ad)) Q E s) ∧ (Q (.bool (!xs.any (sq · a))) s → wpAny (model c.prog c.w) A (compareOp .NotIn va (.ref ad)) Q E s) := by
 obtain ⟨z1, z2⟩ := in_key ra _ _ h2 hk
 have hl : s.heap.IsTuple ad vs.toArray := ⟨_, h1, rfl, k, rfl⟩
 have ht : vs.toArray.any (eV va) = xs.any (sq · a) := by rw [← z2]; simp
 rw [← ht]
 exact ⟨fun h => SeqAt.in_tupleAt (eV va) hl (fun y hy => z1 y (by simpa using hy) _ _) h, fun h => SeqAt.notIn_tupleAt (eV va) hl (fun y hy => z1 y (by simpa using hy) _ _) h⟩
theorem in_at {A : Around} {s : Shared} {ρ δ : Nat → Addr} {va vb : Value} {E : Value → Shared → Prop} {Q : Value → Shared → Prop} (o : T.get r = some (.tuple xs) ∨ T.get r = some (.list xs)) (hk : xs.all (kin · a) = true) (hr : HR c ρ δ T T.n s.heap) (ra : VR T.n ρ a va) (rb : VR T.n ρ (.ref r) vb) :
  (Q (.bool (xs.any (sq · a))) s → wpAny (model c.prog c.w) A (compareOp .In va vb) Q E s) ∧ (Q (.bool (!xs.any (sq · a))) s → wpAny (model c.prog c.w) A (compareOp .NotIn va vb) Q E s) := by
 rw [rb.2]
 rcases o with o | o
 ·obtain ⟨vs, k, h1, h2⟩ := (hr.obj _ _ o).2
  exact in_tup hk h1 h2 ra
 ·obtain ⟨vs, k, h1, h2⟩ := (hr.obj _ _ o).2
  obtain ⟨z1, z2⟩ := in_key ra _ _ h2 hk
  have hl : s.heap.IsList (ρ r) vs.toArray := ⟨_, h1, rfl, k, rfl⟩
  have ht : vs.toArray.any (eV va) = xs.any (sq · a) := by rw [← z2]; simp
  rw [← ht]
  exact ⟨fun h => SeqAt.in_listAt (eV va) hl (fun y hy => z1 y (by simpa using hy) _ _) h, fun h => SeqAt.notIn_listAt (eV va) hl (fun y hy => z1 y (by simpa using hy) _ _) h⟩
theorem C_ninO (ok : Ok c) {p : Nat} (h : lk c.G.top p = some xs) (hk : xs.all (kin · a) = true) : Cm c .notin a (.obj p) T (!xs.any (sq · a)) := by
 intro d A s ρ δ va vb Q E hr ro ra rb nx
 obtain ⟨vs, k, q1, w1⟩ := ok.top _ _ h
 cases rb
 exact (in_tup hk (hr.base _ _ q1) (w1.up (Nat.zero_le _) fun i q => absurd q (Nat.not_lt_zero i)) ra).2 (nx s.heap s.toks Go.refl hr)
theorem C_in (o : T.get r = some (.tuple xs) ∨ T.get r = some (.list xs)) (hk : xs.all (kin · a) = true) : Cm c .isin a (.ref r) T (xs.any (sq · a)) := by
 intro d A s ρ δ va vb Q E hr ro ra rb nx
 exact (in_at o hk hr ra rb).1 (nx s.heap s.toks Go.refl hr)
theorem C_nin (o : T.get r = some (.tuple xs) ∨ T.get r = some (.list xs)) (hk : xs.all (kin · a) = true) : Cm c .notin a (.ref r) T (!xs.any (sq · a)) := by
 intro d A s ρ δ va vb Q E hr ro ra rb nx
 exact (in_at o hk hr ra rb).2 (nx s.heap s.toks Go.refl hr)
theorem inD_at {A : Around} {s : Shared} {ρ δ : Nat → Addr} {va vb : Value} {E : Value → Shared → Prop} {Q : Value → Shared → Prop} (o : T.get r = some (.dict es ep)) (hk : kOk a es = true) (hr : HR c ρ δ T T.n s.heap) (ra : VR T.n ρ a va) (rb : VR T.n ρ (.ref r) vb) :
  ((∀ t', Q (.bool (dlk a es).isSome) (Sh s s.heap t')) → wpAny (model c.prog c.w) A (compareOp .In va vb) Q E s) ∧ ((∀ t', Q (.bool (!(dlk a es).isSome)) (Sh s s.heap t')) → wpAny (model c.prog c.w) A (compareOp .NotIn va vb) Q E s) := by
 rw [rb.2]
 have hor := (hr.obj _ _ o).2
 refine DR.key hor hk ra fun {K _ knd is} kk {kvs b} hd hk hb hkey back => ?_
 have L := KR.look kk hb hk
 have hs : (dlk a es).isSome = (valueAt kvs b).isSome := by
  cases q : dlk a es with
  | none => rw [L.2 q]; rfl
  | some y => obtain ⟨u, w, _⟩ := L.1 y q; rw [w]; rfl
 rw [hs]
 exact ⟨fun h => wpAny_in_of hkey hor.1 hd.dictOf.mapOf (h _), fun h => wpAny_notIn_of hkey hor.1 hd.dictOf.mapOf (h _)⟩
theorem C_inD (o : T.get r = some (.dict es ep)) (hk : kOk a es = true) : Cm c .isin a (.ref r) T (dlk a es).isSome := by
 intro d A s ρ δ va vb Q E hr ro ra rb nx
 exact (inD_at o hk hr ra rb).1 fun t' => nx s.heap t' Go.refl hr
theorem C_ninD (o : T.get r = some (.dict es ep)) (hk : kOk a es = true) : Cm c .notin a (.ref r) T (!(dlk a es).isSome) := by
 intro d A s ρ δ va vb Q E hr ro ra rb nx
 exact (inD_at o hk hr ra rb).2 fun t' => nx s.heap t' Go.refl hr
theorem C_inS {x : Nat} {l : List Nat} : Cm c .isin (.str [x]) (.str l) T (l.contains x) := by
 rintro d A s ρ δ _ _ Q E hr ro ⟨_, rfl⟩ ⟨_, rfl⟩ nx
 refine P.in_str ?_
 rw [show (!(Builtin.Str.occurrences (S l) (S [x]) 0 (S l).length 1).isEmpty) = l.contains x from (StrLaws.found_one (S l) x).trans (by simp)]
 exact nx s.heap s.toks Go.refl hr
end
end Mine
end
section
open PySem PySem.W PyProof.Rows
open PySem.Spec (ltCps)
namespace Mine
section
variable {n : Nat} {ρ : Nat → Addr}
theorem vr1 {a : AV} {vals : List Value} (h : VRs n ρ [a] vals) : ∃ v, vals = [v] ∧ VR n ρ a v := by
 cases vals with
 | nil => exact h.elim
 | cons v r => cases r with
  | nil => exact ⟨v, rfl, h.1⟩
  | cons => exact h.2.elim
theorem vr2 {a b : AV} {vals : List Value} (h : VRs n ρ [a, b] vals) : ∃ v u, vals = [v, u] ∧ VR n ρ a v ∧ VR n ρ b u := by
 cases vals with
 | nil => exact h.elim
 | cons v r =>
  obtain ⟨u, rfl, q⟩ := vr1 h.2
  exact ⟨v, u, rfl, h.1, q⟩
theorem of_ints {l : List Int} {vs : List Value} (h : IntsAre vs l) : VRs n ρ (l.map .int) vs := by
 induction h with
 | nil => trivial
 | cons i t h ih => exact ⟨⟨t, rfl⟩, ih⟩
theorem of_strs {l : List (List Nat)} : ∀ {vs : List Value}, StrsAre vs (l.map S) → VRs n ρ (l.map .str) vs := by
 induction l with
 | nil => intro vs h; cases h; trivial
 | cons x l ih => intro vs h; cases h with | cons y t h => exact ⟨⟨t, rfl⟩, ih h⟩
theorem ints_of {l : List Int} : ∀ {vs : List Value}, VRs n ρ (l.map .int) vs → IntsAre vs l := by
 induction l with
 | nil => intro vs h; cases vs with
  | nil => exact .nil
  | cons => exact h.elim
 | cons x l ih => intro vs h; cases vs with
  | nil => exact h.elim
  | cons v vs => obtain ⟨⟨t, rfl⟩, h⟩ := h; exact .cons x t (ih h)
theorem strs_of {l : List (List Nat)} : ∀ {vs : List Value}, VRs n ρ (l.map .str) vs → StrsAre vs (l.map S) := by
 induction l with
 | nil => intro vs h; cases vs with
  | nil => exact .nil
  | cons => exact h.elim
 | cons x l ih => intro vs h; cases vs with
  | nil => exact h.elim
  | cons v vs => obtain ⟨⟨t, rfl⟩, h⟩ := h; exact .cons (S x) t (ih h)
end
structure Tot {α : Type} (lt : α → α → Bool) : Prop where
 tr : ∀ {a b c}, lt b a = false → lt c b = false → lt c a = false
 anti : ∀ {a b}, lt a b = false → lt b a = false → a = b
noncomputable def Srt {α : Type} (lt : α → α → Bool) (l : List α) : Prop := l.Pairwise (fun a b => lt b a = false)
theorem sorted_unique {α : Type} {lt : α → α → Bool} (h : Tot lt) {a b : List α} (p : a.Perm b) (h1 : Srt lt a) (h2 : Srt lt b) : a = b := by
 induction a generalizing b with
 | nil => rw [List.nil_perm.mp p]
 | cons x a ih => cases b with
  | nil => exact absurd p.length_eq (by simp)
  | cons y b =>
   unfold Srt at h1 h2
   rw [List.pairwise_cons] at h1 h2
   have e : x = y := by
    rcases List.mem_cons.mp (p.mem_iff.mp (.head _)) with e | hx
    ·exact e
    ·rcases List.mem_cons.mp (p.mem_iff.mpr (.head _)) with e | hy
     ·exact e.symm
     ·exact h.anti (h2.1 x hx) (h1.1 y hy)
   subst e
   rw [ih (List.Perm.cons_inv p) h1.2 h2.2]
noncomputable def ilt (a b : Int) : Bool := decide (a < b)
noncomputable def slt (a b : List Nat) : Bool := decide (a < b)
theorem totI : Tot ilt := ⟨fun {a b c} h1 h2 => by unfold ilt at *; simp only [decide_eq_false_iff_not] at *; omega, fun {a b} h1 h2 => by unfold ilt at *; simp only [decide_eq_false_iff_not] at *; omega⟩
theorem totS : Tot slt := by
 refine ⟨fun {a b c} h1 h2 => ?_, fun {a b} h1 h2 => ?_⟩
 ·unfold slt at *; simp only [decide_eq_false_iff_not] at *
  exact List.not_lt.mpr (List.le_trans (List.not_lt.mp h1) (List.not_lt.mp h2))
 ·unfold slt at *; simp only [decide_eq_false_iff_not] at *
  exact List.le_antisymm (List.not_lt.mp h2) (List.not_lt.mp h1)
theorem sortedS_of {l : List Str} (h : sortedS l = true) : Srt slt (l.map (·.cps.toList)) := by
 have key : ∀ (l : List Str) (p : Str), risingS p l = true → Srt slt ((p :: l).map (·.cps.toList)) := by
  intro l
  induction l with
  | nil => intro p _; exact List.pairwise_singleton _ _
  | cons x r ih =>
   intro p h
   have h1 : ltCps x.cps.toList p.cps.toList = false ∧ risingS x r = true := by
    unfold risingS at h
    simpa using h
   have i := ih x h1.2
   rw [ltCps_eq] at h1
   refine List.pairwise_cons.mpr ⟨fun z hz => ?_, i⟩
   rcases List.mem_cons.mp hz with rfl | hz
   ·exact h1.1
   ·exact totS.tr h1.1 ((List.pairwise_cons.mp i).1 z hz)
 cases l with
 | nil => exact .nil
 | cons x r => exact key r x h
section
variable {prog : Program} {w : World} {A : Around} {E : Value → Shared → Prop} {s : Shared}
theorem sorted_of {r : Addr} {vals0 : List Value → Prop} {O : List Value → Prop} {Q : Value → Shared → Prop}
  (hc : ∀ {R : List Value → Shared → Prop}, (∀ h' tk vals, (∀ b o, s.heap.get? b = some o → h'.get? b = some o) → vals0 vals → R vals { s with heap := h', toks := tk }) → wpAny (model prog w) A.in1 (collect (.ref r)) R E s)
  (hlen : ∀ vals, vals0 vals → vals.length < 64)
  (hs : ∀ {vals : List Value} {s' : Shared} {a : Addr} {A' : Around} {E' : Value → Shared → Prop} {Q' : Fin → Shared → Prop}, vals0 vals → s'.heap.get? a = some (seqObj "list" vals.toArray 0) → (∀ out : Array Value, O out.toList → Q' (.done (.ret .none)) { s' with heap := sortedHeap s'.heap a vals out }) → wpAny (model prog w) A' (Builtin.«list.sort» ⟨[.ref a], []⟩) Q' E' s')
  (h : ∀ h' tk a (out : List Value) k, (∀ b o, s.heap.get? b = some o → h'.get? b = some o) → s.heap.get? a = none → h'.get? a = some (listOf out.toArray k) → O out → Q (.ref a) { s with heap := h', toks := tk }) :
  wpAny (model prog w) A (call (.builtin "sorted") [.ref r]) Q E s := by
 refine Calls.call_function_entry kind_sorted plain_sorted entry_sorted (args_sorted1 _) ?_
 unfold Builtin.«sorted»
 refine wpAny_bind (m := checkCount "sorted" 1 1 _) (wpAny_pure ?_)
 refine wpAny_bind (hc fun h' tk vals hk hv => ?_)
 have l64 := hlen vals hv
 refine wpAny_bind (wpAny_newList ?_ (by rw [sizeLine_eq]; omega))
 have ho : (h'.push (seqObj "list" vals.toArray 0)).get? h'.objs.size = some (seqObj "list" vals.toArray 0) := Heap.get?_push_size _ rfl
 refine wpAny_bind (wpAny_holding (wpAny_call_entry slot_list_sort ⟨_, ho, rfl⟩ entry_list_sort (hs (s' := { s with heap := h'.push (seqObj "list" vals.toArray 0), toks := tk }) hv ho fun out hO => ⟨_, rfl, ?_⟩) (args_list_sort _)))
 refine wpAny_pure ⟨_, rfl, ?_⟩
 obtain ⟨k, hk2⟩ := sortedHeap_at (out := out) ho
 refine h _ tk _ out.toList k (fun b o e => ?_) ?_ hk2 hO
 ·have lt := Heap.lt_size (hk b o e)
  rw [sortedHeap_old (Nat.ne_of_lt lt) (by rw [Heap.size_push]; exact Nat.lt_succ_of_lt lt)]
  exact Heap.get?_push_of_some _ (hk b o e)
 ·cases q : s.heap.get? h'.objs.size with
  | none => rfl
  | some o => exact absurd (Heap.lt_size (hk _ _ q)) (Nat.lt_irrefl _)
end
noncomputable def Its (c : Cx) (T : Hp) (r : Nat) (xs : List AV) : Prop :=
 ∀ (A : Around) (s : Shared) (ρ δ : Nat → Addr) (E : Value → Shared → Prop) (R : List Value → Shared → Prop), HR c ρ δ T T.n s.heap → A.handled = none →
  (∀ h' tk vals, (∀ b o, s.heap.get? b = some o → h'.get? b = some o) → VRs T.n ρ xs vals → R vals { s with heap := h', toks := tk }) → wpAny (model c.prog c.w) A (collect (.ref (ρ r))) R E s
section
variable {c : Cx} {T : Hp} {r ep d : Nat} {xs : List AV} {es : List (AV × AV)}
theorem keys_at {K : Type} {n : Nat} {ρ : Nat → Addr} {is : AV → K → Prop} {P : K → Value → Prop} (hi : ∀ {x : AV} {k : K} {key : Value}, is x k → P k key → VR n ρ x key) : ∀ {es : List (AV × AV)} {kvs : List (K × Value)} {l : List Value}, KR n ρ is es kvs → l.length = kvs.length → (∀ (i : Nat) (v : Value), l[i]? = some v → ∃ k x, kvs[i]? = some (k, x) ∧ P k v) → VRs n ρ (es.map (·.1)) l := by
 intro es
 induction es with
 | nil =>
  intro kvs l h1 h2 h3
  cases kvs with
  | cons => exact h1.elim
  | nil => cases l with
   | nil => trivial
   | cons => cases h2
 | cons e es ih =>
  intro kvs l h1 h2 h3
  cases kvs with
  | nil => exact h1.elim
  | cons q kvs => cases l with
   | nil => cases h2
   | cons u l =>
    obtain ⟨k', x', w1, w2⟩ := h3 0 u rfl
    cases w1
    exact ⟨hi h1.1 w2, ih h1.2.2 (Nat.succ.inj h2) fun i v' hv' => h3 (i + 1) v' hv'⟩
theorem Its_dict (ho : T.get r = some (.dict es ep)) (hl : es.length < 64) : Its c T r (es.map (·.1)) := by
 intro A s ρ δ E R hr hh nx
 have dr := (hr.obj _ _ ho).2
 obtain ⟨sy, ⟨kvs, h1, h2⟩ | ⟨kvs, h1, h2⟩⟩ := dr
 ·refine kdu_collect (kdl_dict (knd := strKind c.prog c.w) (kvs := kvs) (ep := ep) sy) hh h1 (by rw [← h2.len]; exact szl (Nat.lt_trans hl (by decide))) fun h' tk acc hkp hacc => nx h' tk acc.toList hkp ?_
  exact keys_at (P := fun k v => (strKind c.prog c.w).is k v = true) (fun hx hk => isS_of hx hk _ ρ) h2 (by rw [Array.length_toList]; exact hacc.1) fun i v hv => hacc.2 i v (by rw [← Array.getElem?_toList]; exact hv)
 ·refine kdu_collect (kdl_dict (knd := intKind c.prog c.w) (kvs := kvs) (ep := ep) sy) hh h1 (by rw [← h2.len]; exact szl (Nat.lt_trans hl (by decide))) fun h' tk acc hkp hacc => nx h' tk acc.toList hkp ?_
  exact keys_at (P := fun k v => (intKind c.prog c.w).is k v = true) (fun hx hk => isI_of hx hk _ ρ) h2 (by rw [Array.length_toList]; exact hacc.1) fun i v hv => hacc.2 i v (by rw [← Array.getElem?_toList]; exact hv)
theorem Kv.late {s : Shared} {ρ δ : Nat → Addr} {Q : Value → Shared → Prop} {h' : Heap} {t : Nat} {a : Addr} {ao : AO} (ct : Kv c s ρ δ T (hnew T ao) (.ref T.n) Q) (hr : HR c ρ δ T T.n s.heap) (k : ∀ b o, s.heap.get? b = some o → h'.get? b = some o) (dead : s.heap.get? a = none) (lv : Live h' a) (or : OR c (T.n + 1) (ext ρ T.n a) h' a a ao) : Q (.ref a) (Sh s h' t) := by
 obtain ⟨r1, g1⟩ := hr.grow (X := No) (get_hnew T ao) dead dead lv lv k or
 exact ct _ _ _ t _ g1 r1 ⟨Nat.lt_succ_self _, by rw [ext_at]⟩
theorem B_sortI {l m : List Int} (hi : Its c T r (l.map .int)) (hl : l.length < 64) (p : m.Perm l) (so : Srt ilt m) : Bc c (.bi .sorted) [.ref r] d T (.ref T.n) (hnew T (.list (m.map .int))) := by
 intro A s ρ δ fv vals Q E rf va hr ro ct
 obtain ⟨v, rfl, ra⟩ := vr1 va
 rw [ra.2, rf]
 refine sorted_of (vals0 := fun vals => VRs T.n ρ (l.map .int) vals) (O := fun out => VRs T.n ρ (m.map .int) out) (fun nx => hi _ s ρ δ E _ hr ro.2.2 nx) (fun vals hv => by rw [← hv.len, List.length_map]; exact hl) (fun {vals s' a A' E' Q'} hv ho nx => ?_) fun h' tk a out k kp dead ho hO => ct.late hr kp dead ⟨_, ho⟩ ⟨out, k, ho, ext_vrs hO⟩
 refine list_sort_tree ho (ints_of hv) (by rw [← hv.len, List.length_map]; exact hl) fun out ns' a1 a2 a3 => nx out ?_
 have : ns' = m := sorted_unique totI (a2.trans p.symm) (a3.imp fun h => by unfold ilt; simpa using h) so
 rw [← this]
 exact of_ints a1
theorem B_sortS {l m : List (List Nat)} (hi : Its c T r (l.map .str)) (hl : l.length < 64) (p : m.Perm l) (so : Srt slt m) : Bc c (.bi .sorted) [.ref r] d T (.ref T.n) (hnew T (.list (m.map .str))) := by
 intro A s ρ δ fv vals Q E rf va hr ro ct
 obtain ⟨v, rfl, ra⟩ := vr1 va
 rw [ra.2, rf]
 refine sorted_of (vals0 := fun vals => VRs T.n ρ (l.map .str) vals) (O := fun out => VRs T.n ρ (m.map .str) out) (fun nx => hi _ s ρ δ E _ hr ro.2.2 nx) (fun vals hv => by rw [← hv.len, List.length_map]; exact hl) (fun {vals s' a A' E' Q'} hv ho nx => ?_) fun h' tk a out k kp dead ho hO => ct.late hr kp dead ⟨_, ho⟩ ⟨out, k, ho, ext_vrs hO⟩
 have hS := strs_of hv
 refine list_sort_treeK strKind_oneLt ho hS.keysOf (fun v₁ v₂ rest e => keyKind_strs (by rw [← e]; exact hS)) (by rw [← hv.len, List.length_map]; exact hl) fun st' hp hs => nx _ ?_
 obtain ⟨ss', h1, h2, h3⟩ := sorted_out_str hS hp hs
 have st : ∀ x : Str, S x.cps.toList = x := fun x => rfl
 have es : (ss'.map (·.cps.toList)).map S = ss' := by rw [List.map_map]; exact List.map_id _
 have p2 : (ss'.map (·.cps.toList)).Perm l := by
  have := h2.map (·.cps.toList)
  rwa [List.map_map, show (l.map ((fun x : Str => x.cps.toList) ∘ S)) = l from List.map_id _] at this
 have : ss'.map (·.cps.toList) = m := sorted_unique totS (p2.trans p.symm) (sortedS_of h3) so
 rw [← this]
 rw [← es] at h1
 exact of_strs h1
end
end Mine
end
section
open PySem PySem.W PyProof.Rows
namespace Mine
noncomputable def digits (n : Nat) : List Nat := if n < 10 then [48 + n] else [48 + n / 10, 48 + n % 10]
theorem digits_ok : ∀ i : Fin 100, (Str.ofString (toString ((i.val : Nat) : Int))) = S (digits i.val) := by decide +kernel
section
variable {prog : Program} {w : World} {A : Around} {E : Value → Shared → Prop} {s : Shared}
theorem keys_tuple : typeLookup (.type "tuple") "keys" = pure none := by rw [typeLookup_type, builtinLookup_eq_fast]; kernel_rfl
set_option maxHeartbeats 4000000 in
theorem getAttrQ_miss_tuple {a : Addr} {xs : Array Value} {k : Nat} {name : Str} {Q : Option Value → Shared → Prop}
  (hx : s.heap.get? a = some { cls := .type "tuple", data := .seq xs k }) (hmiss : typeLookup (.type "tuple") name = pure none) (hname : (["__module__", "__name__", "__qualname__", "__doc__", "__annotations__"] : List Str).contains name = false) (hA : A.handled = none)
  (h : ∀ h' tk, (∀ b o, s.heap.get? b = some o → h'.get? b = some o) → Q none { s with heap := h', toks := tk }) (hsz : name.length + 100 ≤ sizeLine) :
  wpAny (model prog w) A (getAttr? (.ref a) name) Q E s := by
 obtain ⟨hp, g, d, tk, os⟩ := s
 have hT : ∀ tk', (⟨hp, g, d, tk', os⟩ : Shared).TypeIs (.ref a) "tuple" := fun _ => ⟨_, hx, rfl⟩
 have f1 := sub_AttributeError
 have f3 := PySem.F.slot_tuple_getattribute.lookup
 have f4 := PySem.F.slot_tuple_getattribute.bind (.ref a)
 have f5 := am_tuple_getattr_none
 unfold getAttr? getAttrBy? getAttrBy
 repeat (any_goals (first | assumption | exact hT _ | ((with_reducible show wpAny _ _ (call (Value.builtin "tuple.__getattribute__") _ _) _ _ _); refine call_meets PySem.F.slot_tuple_getattribute (hT _) am_entry_tuple_getattribute (PySem.F.args_tuple_getattribute_2 _ _) (meets_getattribute_miss_tuple a xs k #[] name _ hmiss hname hsz) ⟨hx, hA, fun h' tk' e hx' => ?_⟩) | wp_step))
 obtain ⟨t', u', he⟩ := hx'.there
 show wpAny _ _ (getattributeRaised _ _ _ _ _ _ _) _ _ _
 unfold getattributeRaised
 repeat (any_goals (first | assumption | wp_step))
 exact h _ _ hx'.keeps
theorem entry_update_loop : entryFor table "dict.update.loop" = some Builtin.«dict.update.loop» := entryFor_of_tree (by kernel_rfl)
theorem plain_update_loop : plainId "dict.update.loop" = true := by decide +kernel
variable {K : Type} [DecidableEq K] {knd : KeyKind prog w K}
theorem call_dict_pair {o p : Addr} {ok pk : Nat} {k : K} {key v : Value} {Q : Value → Shared → Prop} (hkey : knd.is k key = true) (hA : A.handled = none)
  (ho : s.heap.get? o = some { cls := .type "tuple", data := .seq #[.ref p] ok }) (hp : s.heap.get? p = some { cls := .type "tuple", data := .seq #[key, v] pk })
  (h : ∀ h' tk, (∀ b o, s.heap.get? b = some o → h'.get? b = some o) → h'.DictAt knd s.heap.objs.size [(k, v)] 1 → Q (.ref s.heap.objs.size) { s with heap := h', toks := tk }) :
  wpAny (model prog w) A (call (.type "dict") [.ref o]) Q E s := by
 refine callType_codes (Q₁ := fun obj s₁ => obj = .ref s.heap.objs.size ∧ s₁ = { s with heap := s.heap.push { cls := .type "dict", data := .dict #[] } }) PySem.F.kt_called_dict (PySem.F.kt_typeCall_dict_1 _) PySem.F.entry_dict_init (kt_code_dict_new _ ⟨rfl, rfl⟩) ?_
 rintro obj s₁ ⟨rfl, rfl⟩
 have hnew : (s.heap.push { cls := .type "dict", data := .dict #[] }).DictAt knd s.heap.objs.size [] 0 := ⟨_, #[], Heap.get?_push_size _ rfl, ⟨rfl, rfl, rfl⟩, rfl, fun _ he => by simp at he, Pairs.nil, List.nodup_nil⟩
 have ho' := Heap.get?_push_of_some { cls := .type "dict", data := .dict #[] } ho
 have hp' := Heap.get?_push_of_some { cls := .type "dict", data := .dict #[] } hp
 have hT : Shared.TypeIs { s with heap := s.heap.push { cls := .type "dict", data := .dict #[] } } (.ref o) "tuple" := ⟨_, ho', rfl⟩
 refine ⟨hnew.dictOf.typeIs, PySem.F.args_dict_init_2 _ _, ?_⟩
 unfold Builtin.«dict.__init__»
 refine wpAny_bind ?_
 unfold Builtin.Dict.selfAndRest
 refine wpAny_bind (wpAny_notOrdered_dict hnew.dictOf.typeIs ?_)
 show wpAny _ _ (pure (s.heap.objs.size, [Value.ref o])) _ _ _
 refine wpAny_pure ?_
 show wpAny _ _ (Builtin.Dict.updateFrom "dict.__init__" s.heap.objs.size (.ref o) [] .none) _ _ _
 unfold Builtin.Dict.updateFrom
 refine wpAny_bind (wpAny_typeOf hT ?_)
 rw [if_pos (by decide)]
 refine wpAny_bind (getAttrQ_miss_tuple ho' keys_tuple (by decide +kernel) hA (fun h1 tk1 k1 => ?_) (by size_fits))
 show wpAny _ _ (if (true = true) then _ else _) _ _ _
 rw [if_pos rfl]
 refine wpAny_bind (wpAny_rule ?_)
 have ho1 := k1 _ _ ho'
 refine wpAny_bind (wpAny_pyIter_tuple (t := o) (items := #[.ref p]) ⟨_, ho1, rfl, ok, rfl⟩ ?_)
 refine wpAny_pure ⟨plainId_quiet plain_update_loop _, codeAny_builtin entry_update_loop ?_⟩
 rw [Around.under_plainId plain_update_loop _]
 have itr : (h1.push { cls := .type "tuple_iterator", data := .fields #[.ref o, .int 0 0] }).IsTupleIter h1.objs.size o 0 := ⟨_, Heap.get?_push_size _ rfl, rfl, rfl⟩
 have ne : o ≠ h1.objs.size := Nat.ne_of_lt (Heap.lt_size ho1)
 unfold Builtin.«dict.update.loop»
 show wpAny _ _ (pyNext (.ref h1.objs.size) >>= _) _ _ _
 refine wpAny_bind (wpAny_pyNext_tuple_item itr (items := #[.ref p]) (x := .ref p) ⟨_, Heap.get?_push_of_some _ ho1, rfl, ok, rfl⟩ rfl fun h2 it2 sb2 => ?_)
 have k2 : ∀ b ob, h1.get? b = some ob → h2.get? b = some ob := fun b ob e => sb2.extBut b ob (Nat.ne_of_lt (Heap.lt_size e)) (Heap.get?_push_of_some _ e)
 have hp2 := k2 _ _ (k1 _ _ hp')
 have hd2 : h2.DictAt knd s.heap.objs.size [] 0 := hnew.at' fun o e => k2 _ _ (k1 _ _ e)
 dsimp only
 refine wpAny_bind (wpAny_holding ?_)
 refine wpAny_bind (wpAny_tryCatch ?_)
 unfold Builtin.Dict.pairItems
 refine wpAny_bind (wpAny_typeOf (T := "tuple") ⟨_, hp2, rfl⟩ ?_)
 rw [if_pos (by decide)]
 refine wpAny_bind ?_
 unfold seqItems?
 refine wpAny_bind (wpAny_load hp2 ?_)
 refine wpAny_pure (wpAny_pure ?_)
 dsimp only [Option.getD_some]
 refine wpAny_holding (dictSet_at hkey hd2 (Nat.zero_le _) fun h3 hd3 sb3 => ?_)
 have ne2 : h1.objs.size ≠ s.heap.objs.size := Ne.symm (Nat.ne_of_lt (Heap.lt_size (k1 _ _ (Heap.get?_push_size s.heap (o := { cls := .type "dict", data := .dict #[] }) rfl))))
 have it3 : h3.IsTupleIter h1.objs.size o 1 := by obtain ⟨ob, z1, z2⟩ := it2; exact ⟨ob, sb3.extBut _ _ ne2 z1, z2⟩
 have ho3 : h3.get? o = some { cls := .type "tuple", data := .seq #[.ref p] ok } := sb3.extBut _ _ (Nat.ne_of_lt (Heap.lt_size ho)) (k2 _ _ ho1)
 refine wpAny_pure ⟨plainId_quiet plain_update_loop _, codeAny_builtin entry_update_loop ?_⟩
 rw [Around.under_plainId plain_update_loop _]
 unfold Builtin.«dict.update.loop»
 show wpAny _ _ (pyNext (.ref h1.objs.size) >>= _) _ _ _
 refine wpAny_bind (wpAny_pyNext_tuple_end hA it3 (items := #[.ref p]) ⟨_, ho3, rfl, ok, rfl⟩ (by simp) fun h4 eb4 => ?_)
 dsimp only
 refine wpAny_bind (wpAny_pure (wpAny_pure ⟨rfl, ?_⟩))
 refine h h4 _ (fun b ob e => ?_) ?_
 ·have l0 := Heap.lt_size e
  have lb : b < h1.objs.size := Heap.lt_size (k1 _ _ (Heap.get?_push_of_some _ e))
  exact eb4 _ _ (Nat.ne_of_lt lb) (sb3.extBut _ _ (Nat.ne_of_lt l0) (k2 _ _ (k1 _ _ (Heap.get?_push_of_some _ e))))
 ·exact hd3.at' fun ob e => eb4 _ _ (Ne.symm ne2) e
end
section
variable {c : Cx} {T : Hp} {r d : Nat} {xs : List AV} {l : List Nat} {b : Bool} {i : Int}
theorem B_lenS (h : l.length < 4000) : Bc c (.bi .len) [.str l] d T (.int (l.length : Int)) T := by
 intro A s ρ δ fv vals Q E rf va hr ro ct
 obtain ⟨v, rfl, t, rfl⟩ := vr1 va
 rw [rf]
 exact P.len_str (by rw [S_len]; omega) (ct ρ δ s.heap _ _ Go.refl hr ⟨s.toks + 1, by rw [S_len]⟩)
theorem B_lenL (ho : T.get r = some (.list xs)) (h : xs.length < 4000) : Bc c (.bi .len) [.ref r] d T (.int (xs.length : Int)) T := by
 intro A s ρ δ fv vals Q E rf va hr ro ct
 obtain ⟨v, rfl, ra⟩ := vr1 va
 obtain ⟨vs, k, h1, h2⟩ := (hr.obj _ _ ho).2
 rw [ra.2, rf]
 rw [h2.len] at h ct
 exact Calls.call_len_list (items := vs.toArray) ⟨_, h1, rfl, k, rfl⟩ (by rw [List.size_toArray]; omega) (ct ρ δ s.heap _ _ Go.refl hr ⟨s.toks + 1, by rw [List.size_toArray]⟩)
theorem B_lenT (ho : T.get r = some (.tuple xs)) (h : xs.length < 4000) : Bc c (.bi .len) [.ref r] d T (.int (xs.length : Int)) T := by
 intro A s ρ δ fv vals Q E rf va hr ro ct
 obtain ⟨v, rfl, ra⟩ := vr1 va
 obtain ⟨vs, k, h1, h2⟩ := (hr.obj _ _ ho).2
 rw [ra.2, rf]
 rw [h2.len] at h ct
 exact P.len_tuple (items := vs.toArray) h1 (by rw [List.size_toArray]; omega) (ct ρ δ s.heap _ _ Go.refl hr ⟨s.toks + 1, by rw [List.size_toArray]⟩)
theorem B_typeS : Bc c (.typ .type) [.str l] d T (.typ .str) T := by
 intro A s ρ δ fv vals Q E rf va hr ro ct
 obtain ⟨v, rfl, t, rfl⟩ := vr1 va
 rw [rf]
 exact call_type_of (typeIs_str _ _ _) (by decide) (ct ρ δ s.heap _ _ Go.refl hr rfl)
theorem B_typeI : Bc c (.typ .type) [.int i] d T (.typ .int) T := by
 intro A s ρ δ fv vals Q E rf va hr ro ct
 obtain ⟨v, rfl, t, rfl⟩ := vr1 va
 rw [rf]
 exact call_type_of (typeIs_int _ _ _) (by decide) (ct ρ δ s.heap _ _ Go.refl hr rfl)
theorem B_typeT (ho : T.get r = some (.tuple xs)) : Bc c (.typ .type) [.ref r] d T (.typ .tuple) T := by
 intro A s ρ δ fv vals Q E rf va hr ro ct
 obtain ⟨v, rfl, ra⟩ := vr1 va
 obtain ⟨vs, k, h1, h2⟩ := (hr.obj _ _ ho).2
 rw [ra.2, rf]
 exact call_type_of ⟨_, h1, rfl⟩ (by decide) (ct ρ δ s.heap _ _ Go.refl hr rfl)
theorem B_range : Bc c (.typ .range) [.int i] d T (.ref T.n) (hnew T (.range 0 i)) := by
 intro A s ρ δ fv vals Q E rf va hr ro ct
 obtain ⟨v, rfl, t, rfl⟩ := vr1 va
 rw [rf]
 exact call_range_1 (ct.push (t := s.toks + 1 + 1) hr rfl ⟨_, _, _, Heap.get?_push_size _ rfl⟩)
theorem B_strI {k : Nat} (h : k < 100) : Bc c (.typ .str) [.int (k : Int)] d T (.str (digits k)) T := by
 intro A s ρ δ fv vals Q E rf va hr ro ct
 obtain ⟨v, rfl, t, rfl⟩ := vr1 va
 rw [rf]
 refine P.str_of_int (by
  have : k.log2 ≤ k := Nat.log2_le_self k
  simp only [Int.natAbs_natCast]; omega) (ct ρ δ s.heap _ _ Go.refl hr ⟨s.toks, ?_⟩)
 exact congrArg (Value.str · s.toks) (digits_ok ⟨k, h⟩)
theorem B_tupleL (ho : T.get r = some (.list xs)) (h : xs.length < 4000) : Bc c (.typ .tuple) [.ref r] d T (.ref T.n) (hnew T (.tuple xs)) := by
 intro A s ρ δ fv vals Q E rf va hr ro ct
 obtain ⟨v, rfl, ra⟩ := vr1 va
 obtain ⟨vs, k, h1, h2⟩ := (hr.obj _ _ ho).2
 rw [ra.2, rf]
 rw [h2.len] at h
 refine call_tuple_list (items := vs.toArray) ⟨_, h1, rfl, k, rfl⟩ (fun h' kp => ?_) (by rw [List.size_toArray]; exact szl h)
 refine ct.late hr (fun b o e => Heap.get?_push_of_some _ (kp b o e)) ?_ ⟨_, Heap.get?_push_size _ rfl⟩ ⟨vs, 0, Heap.get?_push_size _ rfl, ext_vrs h2⟩
 cases q : s.heap.get? h'.objs.size with
 | none => rfl
 | some o => exact absurd (Heap.lt_size (kp _ _ q)) (Nat.lt_irrefl _)
theorem B_tupleT (ho : T.get r = some (.tuple xs)) : Bc c (.typ .tuple) [.ref r] d T (.ref r) T := by
 intro A s ρ δ fv vals Q E rf va hr ro ct
 obtain ⟨v, rfl, ra⟩ := vr1 va
 obtain ⟨vs, k, h1, h2⟩ := (hr.obj _ _ ho).2
 obtain ⟨lt, rfl⟩ := ra
 rw [rf]
 exact call_tuple_same (items := vs.toArray) ⟨_, h1, rfl, k, rfl⟩ (ct ρ δ s.heap s.toks _ Go.refl hr ⟨lt, rfl⟩)
theorem B_listT (ho : T.get r = some (.tuple xs)) (h : xs.length < 4000) : Bc c (.typ .list) [.ref r] d T (.ref T.n) (hnew T (.list xs)) := by
 intro A s ρ δ fv vals Q E rf va hr ro ct
 obtain ⟨v, rfl, ra⟩ := vr1 va
 obtain ⟨vs, k, h1, h2⟩ := (hr.obj _ _ ho).2
 rw [ra.2, rf]
 rw [h2.len] at h
 refine call_list_seq (ρ r) (.inr rfl) h1 rfl rfl (fun h' k' kp hD => ?_) (by rw [List.size_toArray]; exact szl h)
 exact ct.late (t := s.toks) hr kp (dead_end _ (Nat.le_refl _)) ⟨_, hD⟩ ⟨vs, k', hD, ext_vrs h2⟩
theorem B_bool : Bc c (.typ .bool) [.bool b] d T (.bool b) T := by
 intro A s ρ δ fv vals Q E rf va hr ro ct
 obtain ⟨v, rfl, rfl⟩ := vr1 va
 rw [rf]
 exact call_bool_bool (ct ρ δ s.heap s.toks _ Go.refl hr rfl)
theorem B_dictO {a p : Nat} {v : AV} (ok : Ok c) (h1 : lk c.G.top a = some [.obj p]) (h2 : lk c.G.top p = some [.str l, v]) : Bc c (.typ .dict) [.obj a] d T (.ref T.n) (hnew T (.dict [(.str l, v)] 1)) := by
 intro A s ρ δ fv vals Q E rf va hr ro ct
 obtain ⟨_, rfl, rfl⟩ := vr1 va
 obtain ⟨vs, kk, q1, w1⟩ := ok.top _ _ h1
 obtain ⟨us, kk', q2, w2⟩ := ok.top _ _ h2
 obtain ⟨_, rfl, rfl⟩ := vr1 w1
 obtain ⟨_, u, rfl, ⟨t, rfl⟩, r2⟩ := vr2 w2
 rw [rf]
 have dead : s.heap.get? s.heap.objs.size = none := dead_end _ (Nat.le_refl _)
 refine call_dict_pair (knd := strKind c.prog c.w) (k := S l) (by simp [PySem.strKind, Value.isStrOf]) ro.2.2 (hr.base _ _ q1) (hr.base _ _ q2) fun h' tk kp hd => ?_
 refine ct.late (t := tk) hr kp dead (let ⟨o, _, q, _⟩ := hd; ⟨o, q⟩) ⟨beq_false_of_ne fun z => ?_, .inl ⟨_, hd, rfl, r2.up (Nat.zero_le _) fun i q => absurd q (Nat.not_lt_zero i), trivial⟩⟩
 obtain ⟨ob, q⟩ := ok.sysm
 have := hr.base _ _ q
 rw [← z, dead] at this
 cases this
end
end Mine
end
section
open PySem PySem.W PyProof.Rows
namespace Mine
noncomputable abbrev k_append : Nat := 111529134485858
noncomputable abbrev k_startswith : Nat := 498014421767949786445172
noncomputable abbrev k_split : Nat := 504296730996
noncomputable abbrev k_strip : Nat := 487117256052
noncomputable abbrev k_rindex : Nat := 133480695425651
noncomputable abbrev k_get : Nat := 7693928
section
variable {c : Cx} {T : Hp} {l m : List Nat} {r d ep : Nat} {xs : List AV} {es : List (AV × AV)} {v k : AV}
theorem G_startswith : Bg c (.str l) k_startswith "str.startswith" T := by
 rintro A s ρ δ _ pl Q E ⟨t, rfl⟩ hr h
 rw [show nmS k_startswith = ("startswith" : Str) by decide +kernel]; with_reducible exact GM.startswith h
theorem G_split : Bg c (.str l) k_split "str.split" T := by
 rintro A s ρ δ _ pl Q E ⟨t, rfl⟩ hr h
 rw [show nmS k_split = ("split" : Str) by decide +kernel]; with_reducible exact GM.split h
theorem G_strip : Bg c (.str l) k_strip "str.strip" T := by
 rintro A s ρ δ _ pl Q E ⟨t, rfl⟩ hr h
 rw [show nmS k_strip = ("strip" : Str) by decide +kernel]; with_reducible exact GM.strip h
theorem G_rindex : Bg c (.str l) k_rindex "str.rindex" T := by
 rintro A s ρ δ _ pl Q E ⟨t, rfl⟩ hr h
 rw [show nmS k_rindex = ("rindex" : Str) by decide +kernel]; with_reducible exact GM.rindex h
theorem G_append (ho : T.get r = some (.list xs)) : Bg c (.ref r) k_append "list.append" T := by
 intro A s ρ δ v pl Q E rv hr h
 obtain ⟨vs, k, h1, h2⟩ := (hr.obj _ _ ho).2
 rw [rv.2] at h ⊢
 rw [show nmS k_append = ("append" : Str) by decide +kernel]
 exact Calls.getMethod_list_append h1 rfl rfl h
theorem G_get (ho : T.get r = some (.dict es ep)) : Bg c (.ref r) k_get "dict.get" T := by
 intro A s ρ δ v pl Q E rv hr h
 rw [rv.2] at h ⊢
 rw [show nmS k_get = ("get" : Str) by decide +kernel]
 obtain ⟨_, ⟨kvs, h1, h2⟩ | ⟨kvs, h1, h2⟩⟩ := (hr.obj _ _ ho).2
 ·exact getMethod_builtin h1.dictOf.typeIs PySem.F.plainAttrs_dict PySem.F.slot_dict_get PySem.F.type_dict_get h1.dictOf.mapOf.noDict h
 ·exact getMethod_builtin h1.dictOf.typeIs PySem.F.plainAttrs_dict PySem.F.slot_dict_get PySem.F.type_dict_get h1.dictOf.mapOf.noDict h
theorem startswith_eq (x y : List Nat) : Txt.startswith (S x) (S y) = y.isPrefixOf x := by
 unfold Txt.startswith Builtin.Str.subAt
 rw [Bool.eq_iff_iff, List.isPrefixOf_iff_prefix]
 simp only [Str.length, List.size_toArray, Nat.zero_add, Bool.and_eq_true, decide_eq_true_eq, beq_iff_eq]
 constructor
 ·rintro ⟨h1, h2⟩
  have := congrArg Array.toList h2
  simp at this
  exact ⟨x.drop y.length, by conv => rhs; rw [← List.take_append_drop y.length x, this]⟩
 ·rintro ⟨r, rfl⟩
  simp
theorem M_startswith : Bm c "str.startswith" (.str l) [.str m] d T (.bool (m.isPrefixOf l)) T := by
 rintro A s ρ δ _ vals Q E ⟨t, rfl⟩ va hr ro ct
 obtain ⟨v, rfl, t', rfl⟩ := vr1 va
 exact SC.startswith (by rw [startswith_eq]; exact ct ρ δ s.heap _ _ Go.refl hr rfl)
theorem M_rindex {x i : Nat} (h1 : l[i]? = some x) (h2 : ∀ k, i < k → l[k]? ≠ some x) : Bm c "str.rindex" (.str l) [.str [x]] d T (.int (i : Int)) T := by
 rintro A s ρ δ _ vals Q E ⟨t, rfl⟩ va hr ro ct
 obtain ⟨v, rfl, t', rfl⟩ := vr1 va
 have e : Builtin.Str.lastOccurrence (S l) (S [x]) 0 (S l).length = some i := by
  have at_ : ∀ k, StrLaws.At (S l) ⟨#[x]⟩ (S l).length k ↔ l[k]? = some x := fun k => StrLaws.subAt_one (S l) x k
  rcases StrLaws.last_spec (S l) ⟨#[x]⟩ with ⟨q1, q2⟩ | ⟨j, q1, q2, q3⟩
  ·exact absurd ((at_ i).mpr h1) (q2 i)
  ·refine q1.trans (congrArg some ?_)
   have z1 := (at_ j).mp q2
   rcases Nat.lt_trichotomy i j with z | z | z
   ·exact absurd z1 (h2 j z)
   ·exact z.symm
   ·exact absurd ((at_ i).mpr h1) (q3 i z)
 exact call_gives PySem.F.slot_str_rindex (typeIs_str _ _ _) PySem.F.entry_str_rindex (PySem.F.args_str_rindex_2 _ _) (gives_str_rindex _ _ t t' i e) (ct ρ δ s.heap _ _ Go.refl hr ⟨_, rfl⟩)
theorem M_append (ho : T.get r = some (.list xs)) (sz : xs.length < 4000) (hro : 1 ≤ r) : Bm c "list.append" (.ref r) [v] d T .none (hput T r (.list (xs ++ [v]))) := by
 intro A s ρ δ ov vals Q E rv va hr ro ct
 obtain ⟨vy, rfl, vr⟩ := vr1 va
 obtain ⟨lt, vals, kk, q1, q2⟩ := hr.obj _ _ ho
 rw [rv.2]
 rw [q2.len] at sz
 refine wpAny_list_append_plain (items := vals.toArray) ⟨kk, q1⟩ (fun h' z1 z2 => ?_) (by rw [List.size_toArray]; exact szl (by first | assumption | omega))
 obtain ⟨k2, z1⟩ := z1
 obtain ⟨hr6, g6⟩ := hr.turn1 (X := No) (ao := .list (xs ++ [v])) (h' := h') hro lt z2.extBut ⟨_, z1⟩ ⟨vals ++ [vy], k2, by rw [z1]; simp [W.listOf], q2.append ⟨vr, trivial⟩⟩
 exact ct ρ δ h' _ _ g6 hr6 rfl
theorem M_get {u : AV} (ho : T.get r = some (.dict es ep)) (hk : kOk k es = true) : Bm c "dict.get" (.ref r) [k, u] d T ((dlk k es).getD u) T := by
 intro A s ρ δ ov vals Q E rv va hr ro ct
 obtain ⟨kv, uv, rfl, r1, r2⟩ := vr2 va
 have dr := (hr.obj _ _ ho).2
 rw [rv.2]
 refine DR.key dr hk r1 fun {K _ knd is} kk {kvs b} hd hkr hb hkey back => ?_
 have L := KR.look kk hb hkr
 refine call_meetsIn PySem.F.slot_dict_get hd.dictOf.typeIs PySem.F.entry_dict_get (PySem.F.args_dict_get_3 _ _ _) (meets_dict_get_default knd _ hkey dr.1 uv) ⟨_, hd.dictOf.mapOf, ?_⟩
 refine ct ρ δ s.heap _ _ Go.refl hr ?_
 cases q : dlk k es with
 | none => rw [L.2 q]; exact r2
 | some y => obtain ⟨w, w1, w2⟩ := L.1 y q; rw [w1]; exact w2
end
end Mine
end
section
open PySem PySem.W PyProof.Rows
namespace Mine
noncomputable def joinL (c : Nat) : List (List Nat) → List Nat
 | [] => []
 | x :: r => x ++ (match r with | [] => [] | _ :: _ => c :: joinL c r)
theorem free_app {c : Nat} {x : List Nat} : ∀ {y r s : List Nat}, c ∉ x → c ∉ y → x ++ c :: r = y ++ c :: s → x = y ∧ r = s := by
 induction x with
 | nil => intro y r s _ h e; cases y with
  | nil => exact ⟨rfl, (List.cons.inj e).2⟩
  | cons b y => exact absurd (List.cons.inj e).1 fun z => h (z ▸ .head _)
 | cons a x ih => intro y r s h1 h2 e; cases y with
  | nil => exact absurd (List.cons.inj e).1 fun z => h1 (z ▸ .head _)
  | cons b y =>
   obtain ⟨e1, e2⟩ := List.cons.inj e
   obtain ⟨z1, z2⟩ := ih (fun z => h1 (.tail _ z)) (fun z => h2 (.tail _ z)) e2
   exact ⟨by rw [e1, z1], z2⟩
theorem join_inj {c : Nat} {a : List (List Nat)} : ∀ {b : List (List Nat)}, a ≠ [] → b ≠ [] → (∀ p ∈ a, c ∉ p) → (∀ p ∈ b, c ∉ p) → joinL c a = joinL c b → a = b := by
 induction a with
 | nil => exact fun h => absurd rfl h
 | cons x a ih => intro b _ h h1 h2 e; cases b with
  | nil => exact absurd rfl h
  | cons y b => cases a with
   | nil => cases b with
    | nil =>
     have e : x ++ [] = y ++ [] := e
     rw [List.append_nil, List.append_nil] at e
     rw [e]
    | cons z r =>
     have e : x ++ [] = y ++ c :: joinL c (z :: r) := e
     rw [List.append_nil] at e
     exact absurd (show c ∈ x by rw [e]; exact List.mem_append_right _ (.head _)) (h1 x (.head _))
   | cons x2 a => cases b with
    | nil =>
     have e : x ++ c :: joinL c (x2 :: a) = y ++ [] := e
     rw [List.append_nil] at e
     exact absurd (show c ∈ y by rw [← e]; exact List.mem_append_right _ (.head _)) (h2 y (.head _))
    | cons z r =>
     obtain ⟨z1, z2⟩ := free_app (h1 x (.head _)) (h2 y (.head _)) e
     rw [z1, ih (List.cons_ne_nil _ _) (List.cons_ne_nil _ _) (fun p hp => h1 p (.tail _ hp)) (fun p hp => h2 p (.tail _ hp)) z2]
theorem join_cps (c : Nat) (l : List Str) : (Str.join ⟨#[c]⟩ l).cps.toList = joinL c (l.map (·.cps.toList)) := by
 induction l with
 | nil => rfl
 | cons x r ih => cases r with
  | nil => exact (List.append_nil _).symm
  | cons y r =>
   show ((x.cps ++ #[c]) ++ (Str.join ⟨#[c]⟩ (y :: r)).cps).toList = x.cps.toList ++ c :: joinL c ((y :: r).map (·.cps.toList))
   rw [← ih]
   simp
theorem split_eq {c : Nat} {l : List Nat} {ps : List (List Nat)} (ne' : ps ≠ []) (hf : ∀ p ∈ ps, c ∉ p) (e : joinL c ps = l) : Txt.split (S l) (S [c]) = ps.map S := by
 have h1 := StrLaws.join_split (S l) ⟨#[c]⟩
 have h2 := StrLaws.split_free (S l) c
 have h3 : joinL c ((Txt.split (S l) ⟨#[c]⟩).map (·.cps.toList)) = l := by
  rw [← join_cps, h1]
 have ne : Txt.split (S l) ⟨#[c]⟩ ≠ [] := by
  unfold Txt.split
  split
  ·exact List.cons_ne_nil _ _
  ·split
   ·exact List.cons_ne_nil _ _
   ·rw [StrLaws.partsBetween_eq]
    obtain ⟨p, r, e⟩ := StrLaws.partsFrom_ne (S l) (⟨#[c]⟩ : Str).length 0 (Builtin.Str.occurrences (S l) ⟨#[c]⟩ 0 (S l).length ((S l).length + 1))
    rw [e]; exact List.cons_ne_nil _ _
 have key : (Txt.split (S l) ⟨#[c]⟩).map (·.cps.toList) = ps := by
  refine join_inj (c := c) (fun z => ne (List.map_eq_nil_iff.mp z)) ne' ?_ hf (h3.trans e.symm)
  intro p hp
  obtain ⟨q, hq, rfl⟩ := List.mem_map.mp hp
  exact h2 q hq
 rw [← key, List.map_map]
 exact (List.map_id _).symm
section
variable {prog : Program} {w : World} {A : Around} {E : Value → Shared → Prop} {s : Shared} {x : Str} {t : Tok} {Q : Value → Shared → Prop}
theorem split_one {y : Str} {u : Tok} (hy : (y.length == 0) = false) (hsz : x.length ≤ sizeLine) (hsz2 : (Txt.split x y).length ≤ sizeLine)
  (hq : ∀ (l : List (Str × Tok)) tk, l.map (·.1) = Txt.split x y → Q (.ref s.heap.objs.size) { s with heap := s.heap.push { cls := .type "list", data := .seq (strValues l).toArray }, toks := tk }) :
  wpAny (model prog w) A (call (.builtin "str.split") [.str x t, .str y u]) Q E s := by
 cases h1 : (decide (x.length < y.length) || decide (Builtin.Str.strKind x < Builtin.Str.strKind y))
 ·cases hf : (Builtin.Str.occurrences x y 0 x.length (x.length + 1)).isEmpty
  ·have e : Txt.split x y = Builtin.Str.partsBetween x (Builtin.Str.occurrences x y 0 x.length (x.length + 1)) y.length := (if_neg (ne_true_of_eq_false h1)).trans (if_neg (ne_true_of_eq_false hf))
   rw [e] at hsz2
   refine call_meets PySem.F.slot_str_split (typeIs_str _ _ _) PySem.F.entry_str_split (PySem.F.args_str_split_2 _ _) (meets_str_split_sep x y t u h1 hy hf hsz hsz2) ?_
   show wants Q E _ { s with toks := _, heap := s.heap.push { cls := .type "list", data := .seq (strsFrom s.toks (Builtin.Str.partsBetween x (Builtin.Str.occurrences x y 0 x.length (x.length + 1)) y.length)).toArray } }
   rw [strsFrom_eq]
   exact hq (numbered s.toks _) _ ((numbered_texts _ _).trans e.symm)
  ·exact call_meets PySem.F.slot_str_split (typeIs_str _ _ _) PySem.F.entry_str_split (PySem.F.args_str_split_2 _ _) (meets_str_split_not_found x y t u h1 hy hf)
    (hq [(x, t)] s.toks ((if_neg (ne_true_of_eq_false h1)).trans (if_pos hf)).symm)
 ·exact call_meets PySem.F.slot_str_split (typeIs_str _ _ _) PySem.F.entry_str_split (PySem.F.args_str_split_2 _ _) (meets_str_split_cannot_occur x y t u h1)
   (hq [(x, t)] s.toks (if_pos h1).symm)
end
section
variable {c : Cx} {T : Hp} {l m : List Nat} {d : Nat}
theorem strs_vr {n : Nat} {ρ : Nat → Addr} (ps : List (List Nat)) : ∀ {ll : List (Str × Tok)}, ll.map (·.1) = ps.map S → VRs n ρ (ps.map .str) (strValues ll) := by
 induction ps with
 | nil => intro ll hl; cases ll with
  | nil => trivial
  | cons => cases hl
 | cons p ps ih => intro ll hl; cases ll with
  | nil => cases hl
  | cons q ll =>
   obtain ⟨e1, e2⟩ := List.cons.inj hl
   obtain ⟨q, t⟩ := q
   cases e1
   exact ⟨⟨t, rfl⟩, ih e2⟩
theorem M_split {x : Nat} {ps : List (List Nat)} (ne : ps ≠ []) (hf : ∀ p ∈ ps, x ∉ p) (e : joinL x ps = l) (h : l.length < 4000) (h2 : ps.length < 4000) : Bm c "str.split" (.str l) [.str [x]] d T (.ref T.n) (hnew T (.list (ps.map .str))) := by
 rintro A s ρ δ _ vals Q E ⟨t, rfl⟩ va hr ro ct
 obtain ⟨v, rfl, t', rfl⟩ := vr1 va
 have e := split_eq ne hf e
 refine split_one (by rfl) (by rw [S_len]; exact szl h) (by rw [e, List.length_map]; exact szl h2) fun ll tk hl => ?_
 exact ct.push (t := tk) hr rfl ⟨strValues ll, 0, Heap.get?_push_size _ rfl, strs_vr ps (hl.trans e)⟩
theorem take_all {p : Nat → Bool} (h : ∀ b ∈ l, p b = true) : l.takeWhile p = l := by
 induction l with
 | nil => rfl
 | cons a l ih => rw [List.takeWhile_cons, if_pos (h a (.head _)), ih fun b hb => h b (.tail _ hb)]
theorem M_strip0 (h : ∀ b ∈ l, b ∈ m) (hl : l.length < 4000) : Bm c "str.strip" (.str l) [.str m] d T (.str []) T := by
 rintro A s ρ δ _ vals Q E ⟨t, rfl⟩ va hr ro ct
 obtain ⟨v, rfl, t', rfl⟩ := vr1 va
 refine SC.stripChars (fun t' k => ?_) (by rw [S_len]; exact szl hl)
 have e : Txt.stripChars (S l) (S m) = S [] := by
  have lo : stripLo (S m).cps.contains true (S l) = l.length := by
   show (l.takeWhile _).length = _
   rw [show l.takeWhile (S m).cps.contains = l from take_all fun b hb => by simpa using h b hb]
  unfold Txt.stripChars Txt.stripBy
  split
  ·rename_i q
   unfold stripSame at q
   rw [lo, Bool.and_eq_true] at q
   rw [List.eq_nil_of_length_eq_zero (eq_of_beq q.1)]
  ·unfold PySem.stripped
   rw [lo]
   have hi : stripHi (S m).cps.contains true (S l) l.length = l.length := by
    show (S l).length - ((l.drop l.length).reverse.takeWhile _).length = _
    rw [List.drop_length, S_len]; rfl
   rw [hi]
   show (⟨(l.toArray).extract l.length l.length⟩ : Str) = _
   rw [Array.extract_eq_empty_of_le (by simp)]
 rw [e]
 exact ct ρ δ s.heap k _ Go.refl hr ⟨_, rfl⟩
end
end Mine
end
section
open PySem PySem.W PyProof.Rows
namespace Mine
structure V where
 tag : Nat
 s : Str
 k : Nat
 p : Pos
 i : Int
 a : PySem.Expr
 b : PySem.Expr
 d : PySem.Expr
 t : PySem.Expr
 l : List PySem.Expr
 m : List PySem.Expr
 ks : List (Option PySem.Expr)
 cop : CmpOp
 bop : Operator
 sc : Option Scope
 cop2 : CmpOp
noncomputable def v0 (x : PySem.Expr) (p : Pos) : V := ⟨0, ⟨#[]⟩, 0, p, 0, x, x, x, x, [], [], [], .Eq, .Add, none, .Eq⟩
noncomputable def vw (x : PySem.Expr) : V := match x with
 | .Name y p => { v0 x p with tag := 1, s := y }
 | .Constant .none k p => { v0 x p with tag := 2, k := k }
 | .Constant (.bool true) k p => { v0 x p with tag := 3, k := k }
 | .Constant (.bool false) k p => { v0 x p with tag := 4, k := k }
 | .Constant (.int i) k p => { v0 x p with tag := 5, k := k, i := i }
 | .Constant (.str y) k p => { v0 x p with tag := 6, k := k, s := y }
 | .Attribute a y p => { v0 x p with tag := 7, a := a, s := y }
 | .Call a l [] p => { v0 x p with tag := 8, a := a, l := l }
 | .BinOp a o b p => { v0 x p with tag := 9, a := a, bop := o, b := b }
 | .Compare a [o] [b] p => { v0 x p with tag := 10, a := a, cop := o, b := b }
 | .Compare a [o, o2] [b, d] p => { v0 x p with tag := 23, a := a, cop := o, cop2 := o2, b := b, d := d }
 | .BoolOp .And l p => { v0 x p with tag := 11, l := l }
 | .BoolOp .Or l p => { v0 x p with tag := 12, l := l }
 | .UnaryOp .Not a p => { v0 x p with tag := 13, a := a }
 | .UnaryOp .USub a p => { v0 x p with tag := 14, a := a }
 | .Subscript a b p => { v0 x p with tag := 15, a := a, b := b }
 | .Slice (some a) none none p => { v0 x p with tag := 16, a := a }
 | .Slice none (some a) none p => { v0 x p with tag := 17, a := a }
 | .List l p => { v0 x p with tag := 18, l := l }
 | .Tuple l k p => { v0 x p with tag := 19, l := l, k := k }
 | .Dict ks l p => { v0 x p with tag := 20, l := l, ks := ks }
 | .ListComp a [g] sc p => { v0 x p with tag := 21, a := a, t := g.target, b := g.iter, m := g.ifs, i := g.is_async, sc := some sc }
 | .DictComp a d [g] sc p => { v0 x p with tag := 22, a := a, d := d, t := g.target, b := g.iter, m := g.ifs, i := g.is_async, sc := some sc }
 | _ => v0 x x.pos
noncomputable def bk (t : Nat) (v : V) (x : PySem.Expr) : PySem.Expr := match t with
 | 1 => .Name v.s v.p
 | 2 => .Constant .none v.k v.p
 | 3 => .Constant (.bool true) v.k v.p
 | 4 => .Constant (.bool false) v.k v.p
 | 5 => .Constant (.int v.i) v.k v.p
 | 6 => .Constant (.str v.s) v.k v.p
 | 7 => .Attribute v.a v.s v.p
 | 8 => .Call v.a v.l [] v.p
 | 9 => .BinOp v.a v.bop v.b v.p
 | 10 => .Compare v.a [v.cop] [v.b] v.p
 | 23 => .Compare v.a [v.cop, v.cop2] [v.b, v.d] v.p
 | 11 => .BoolOp .And v.l v.p
 | 12 => .BoolOp .Or v.l v.p
 | 13 => .UnaryOp .Not v.a v.p
 | 14 => .UnaryOp .USub v.a v.p
 | 15 => .Subscript v.a v.b v.p
 | 16 => .Slice (some v.a) none none v.p
 | 17 => .Slice none (some v.a) none v.p
 | 18 => .List v.l v.p
 | 19 => .Tuple v.l v.k v.p
 | 20 => .Dict v.ks v.l v.p
 | 21 => (match v.sc with | some sc => .ListComp v.a [⟨v.t, v.b, v.m, v.i⟩] sc v.p | none => x)
 | 22 => (match v.sc with | some sc => .DictComp v.a v.d [⟨v.t, v.b, v.m, v.i⟩] sc v.p | none => x)
 | _ => x
theorem bk_ok (x : PySem.Expr) : x = bk (vw x).tag (vw x) x := by
 cases x with
 | Constant v k p => cases v with
  | bool b => cases b <;> rfl
  | _ => rfl
 | Call a l kw p => cases kw <;> rfl
 | Compare a ops rs p => cases ops with
  | nil => rfl
  | cons o ops => cases ops with
   | cons o2 ops => cases ops with
    | cons => rfl
    | nil => cases rs with
     | nil => rfl
     | cons r rs => cases rs with
      | nil => rfl
      | cons r2 rs => cases rs <;> rfl
   | nil => cases rs with
    | nil => rfl
    | cons r rs => cases rs <;> rfl
 | BoolOp o l p => cases o <;> rfl
 | UnaryOp o a p => cases o <;> rfl
 | Slice a b st p => cases st with
  | some => cases a <;> cases b <;> rfl
  | none => cases a <;> cases b <;> rfl
 | ListComp a gs sc p => cases gs with
  | nil => rfl
  | cons g gs => obtain ⟨_, _, _, _⟩ := g; cases gs <;> rfl
 | DictComp a d gs sc p => cases gs with
  | nil => rfl
  | cons g gs => obtain ⟨_, _, _, _⟩ := g; cases gs <;> rfl
 | _ => rfl
theorem inv {x : PySem.Expr} {t : Nat} (h : Nat.beq (vw x).tag t = true) : x = bk t (vw x) x := (bk_ok x).trans (by rw [Nat.eq_of_beq_eq_true h])
theorem and2 {a b : Bool} (h : (a && b) = true) : a = true ∧ b = true := (Bool.and_eq_true _ _).mp h
theorem no {P : Prop} (h : false = true) : P := (Bool.false_ne_true h).elim
theorem not_t {b : Bool} (h : (!b) = true) : b = false := by cases b <;> first | rfl | cases h
noncomputable def isGlb (k : Option NameKind) : Bool := match k with
 | some .globalImplicit => true
 | _ => false
theorem isGlb_eq {k : Option NameKind} (h : isGlb k = true) : k = some .globalImplicit := by
 cases k with
 | none => cases h
 | some k => cases k <;> first | rfl | cases h
theorem nmS_of {x : Nat} {y : Str} (h : decide (nm x = y.cps.toList) = true) : y = nmS x := by
 show y = S (nm x)
 rw [of_decide_eq_true h]
noncomputable def chkN (x : Nat) (y : Str) : Bool := decide (nm x = y.cps.toList)
noncomputable def chkName (kd : Kd) (x : Nat) (e : PySem.Expr) : Bool := Nat.beq (vw e).tag 1 && (chkN x (vw e).s && mine? (kd (vw e).s))
theorem chkName_ok {kd : Kd} {x : Nat} {e : PySem.Expr} (h : chkName kd x e = true) : ∃ p, e = .Name (nmS x) p ∧ mine? (kd (nmS x)) = true := by
 obtain ⟨h1, h2⟩ := and2 h
 obtain ⟨h2, h3⟩ := and2 h2
 rw [nmS_of h2] at h3
 exact ⟨_, (inv h1).trans (congrArg (PySem.Expr.Name · _) (nmS_of h2)), h3⟩
noncomputable def chkNs (kd : Kd) : List Nat → List PySem.Expr → Bool
 | [], l => l.isEmpty
 | x :: xs, l => (match l with | e :: l => chkName kd x e && chkNs kd xs l | [] => false)
theorem chkNs_ok {kd : Kd} {xs : List Nat} : ∀ {l : List PySem.Expr}, chkNs kd xs l = true → MNs kd xs l := by
 induction xs with
 | nil => intro l h; exact List.isEmpty_iff.mp h
 | cons x xs ih => intro l h; cases l with
  | nil => exact no h
  | cons e l =>
   obtain ⟨h1, h2⟩ := and2 h
   obtain ⟨p, rfl, h3⟩ := chkName_ok h1
   exact ⟨p, l, rfl, h3, ih h2⟩
noncomputable def chkT (kd : Kd) (xs : List Nat) (e : PySem.Expr) : Bool := match xs with
 | [x] => chkName kd x e
 | _ => Nat.beq (vw e).tag 19 && (Nat.ble 2 xs.length && chkNs kd xs (vw e).l)
theorem chkT_ok {kd : Kd} {xs : List Nat} {e : PySem.Expr} (h : chkT kd xs e = true) : MT kd xs e := by
 have k : (Nat.beq (vw e).tag 19 && (Nat.ble 2 xs.length && chkNs kd xs (vw e).l)) = true → MT kd xs e := fun h => by
  obtain ⟨h1, h2⟩ := and2 h
  obtain ⟨h2, h3⟩ := and2 h2
  exact .inr ⟨_, _, _, Nat.le_of_ble_eq_true h2, inv h1, chkNs_ok h3⟩
 cases xs with
 | nil => exact k h
 | cons x xs => cases xs with
  | cons => exact k h
  | nil => obtain ⟨p, h1, h2⟩ := chkName_ok h; exact .inl ⟨x, p, rfl, h1, h2⟩
mutual
noncomputable def chkE : PE → Kd → PySem.Expr → Bool
 | .bad, _, _ => true
 | .none, _, x => Nat.beq (vw x).tag 2
 | .bool b, _, x => Nat.beq (vw x).tag (cond b 3 4)
 | .int i, _, x => Nat.beq (vw x).tag 5 && decide ((vw x).i = i)
 | .str s, _, x => Nat.beq (vw x).tag 6 && decide (s = (vw x).s.cps.toList)
 | .loc n, kd, x => Nat.beq (vw x).tag 1 && (chkN n (vw x).s && (own? (kd (vw x).s) && !isDbg (vw x).s))
 | .glb n, kd, x => Nat.beq (vw x).tag 1 && (chkN n (vw x).s && (isGlb (kd (vw x).s) && !isDbg (vw x).s))
 | .attr o a, kd, x => Nat.beq (vw x).tag 7 && (chkN a (vw x).s && (notSuper (vw x).a && chkE o kd (vw x).a))
 | .call f l, kd, x => Nat.beq (vw x).tag 8 && (Nat.beq (vw (vw x).a).tag 1 && (chkE f kd (vw x).a && chkEs l kd (vw x).l))
 | .meth o m l, kd, x => Nat.beq (vw x).tag 8 && (Nat.beq (vw (vw x).a).tag 7 && (chkN m (vw (vw x).a).s && (notSuper (vw (vw x).a).a && (((vw (vw x).a).p.endLine == (vw x).p.line) && (Nat.blt (lenE l) 29 && (chkE o kd (vw (vw x).a).a && chkEs l kd (vw x).l))))))
 | .bin op l r, kd, x => Nat.beq (vw x).tag 9 && (decide ((vw x).bop = op.op) && (chkE l kd (vw x).a && chkE r kd (vw x).b))
 | .cmp op l r, kd, x => Nat.beq (vw x).tag 10 && (decide ((vw x).cop = op.op) && (!behindInMarks op.op (vw x).b && (chkE l kd (vw x).a && chkE r kd (vw x).b)))
 | .cmp2 l o1 r o2 z, kd, x => Nat.beq (vw x).tag 23 && (decide ((vw x).cop = o1.op) && (decide ((vw x).cop2 = o2.op) && (!behindInMarks o1.op (vw x).b && (!behindInMarks o2.op (vw x).d && (chkE l kd (vw x).a && (chkE r kd (vw x).b && chkE z kd (vw x).d))))))
 | .and l, kd, x => Nat.beq (vw x).tag 11 && chkEs l kd (vw x).l
 | .or l, kd, x => Nat.beq (vw x).tag 12 && chkEs l kd (vw x).l
 | .not e, kd, x => Nat.beq (vw x).tag 13 && chkE e kd (vw x).a
 | .neg e, kd, x => Nat.beq (vw x).tag 14 && chkE e kd (vw x).a
 | .sub o i, kd, x => Nat.beq (vw x).tag 15 && (notSlice (vw x).b && (chkE o kd (vw x).a && chkE i kd (vw x).b))
 | .slice o up i, kd, x => Nat.beq (vw x).tag 15 && (Nat.beq (vw (vw x).b).tag (cond up 17 16) && (chkE o kd (vw x).a && chkE i kd (vw (vw x).b).a))
 | .list l, kd, x => Nat.beq (vw x).tag 18 && (Nat.blt (lenE l) 1000 && chkEs l kd (vw x).l)
 | .tuple l, kd, x => Nat.beq (vw x).tag 19 && (Nat.blt (lenE l) 1000 && chkEs l kd (vw x).l)
 | .dict l, kd, x => Nat.beq (vw x).tag 20 && (Nat.ble (lenE l) 30 && chkPs l kd (vw x).ks (vw x).l)
 | .listc v xs it ifs, kd, x => (match (vw x).sc with
  | some sc => Nat.beq (vw x).tag 21 && (decide ((vw x).i = 0) && (notSet (vw x).b && (compOk kd sc xs && (chkT (kdC kd sc) xs (vw x).t && (chkE it kd (vw x).b && (chkE v (kdC kd sc) (vw x).a && chkEs ifs (kdC kd sc) (vw x).m))))))
  | none => false)
 | .dictc k v n it ifs, kd, x => (match (vw x).sc with
  | some sc => Nat.beq (vw x).tag 22 && (decide ((vw x).i = 0) && (notSet (vw x).b && (compOk kd sc [n] && (chkT (kdC kd sc) [n] (vw x).t && (chkE it kd (vw x).b && (chkE k (kdC kd sc) (vw x).a && (chkE v (kdC kd sc) (vw x).d && chkEs ifs (kdC kd sc) (vw x).m)))))))
  | none => false)
 | .setc .., _, _ => false
noncomputable def chkEs : PEs → Kd → List PySem.Expr → Bool
 | .nil, _, l => l.isEmpty
 | .cons e l, kd, x => (match x with | e' :: l' => noStar e' && (chkE e kd e' && chkEs l kd l') | [] => false)
noncomputable def chkPs : PEs → Kd → List (Option PySem.Expr) → List PySem.Expr → Bool
 | .nil, _, ks, vs => ks.isEmpty && vs.isEmpty
 | .cons k .nil, _, _, _ => false
 | .cons k (.cons v l), kd, ks, vs => (match ks with | some k' :: ks' => (match vs with | v' :: vs' => chkE k kd k' && (chkE v kd v' && chkPs l kd ks' vs') | [] => false) | _ => false)
end
end Mine
end
section
open PySem PySem.W PyProof.Rows
namespace Mine
mutual
theorem chkE_ok : ∀ (p : PE) {kd : Kd} {x : PySem.Expr}, chkE p kd x = true → ME p kd x
 | .bad, _, _, _ => trivial
 | .none, kd, x, h => ⟨_, _, inv h⟩
 | .bool b, kd, x, h => by cases b <;> exact ⟨_, _, inv h⟩
 | .int i, kd, x, h => by
  obtain ⟨h1, h2⟩ := and2 h
  have := of_decide_eq_true h2; subst this
  exact ⟨_, _, inv h1⟩
 | .str s, kd, x, h => by
  obtain ⟨h1, h2⟩ := and2 h
  have := of_decide_eq_true h2; subst this
  exact ⟨_, _, inv h1⟩
 | .loc n, kd, x, h => by
  obtain ⟨h1, h2⟩ := and2 h
  obtain ⟨h2, h3⟩ := and2 h2
  obtain ⟨h3, h4⟩ := and2 h3
  have e : x = .Name (vw x).s _ := inv h1
  rw [nmS_of h2] at h3 h4 e
  exact ⟨_, e, h3, not_t h4⟩
 | .glb n, kd, x, h => by
  obtain ⟨h1, h2⟩ := and2 h
  obtain ⟨h2, h3⟩ := and2 h2
  obtain ⟨h3, h4⟩ := and2 h3
  have e : x = .Name (vw x).s _ := inv h1
  rw [nmS_of h2] at h3 h4 e
  exact ⟨_, e, isGlb_eq h3, not_t h4⟩
 | .attr o a, kd, x, h => by
  obtain ⟨h1, h2⟩ := and2 h
  obtain ⟨h2, h3⟩ := and2 h2
  obtain ⟨h3, h4⟩ := and2 h3
  have e : x = .Attribute _ (vw x).s _ := inv h1
  rw [nmS_of h2] at e
  exact ⟨_, _, e, chkE_ok o h4, h3⟩
 | .call f l, kd, x, h => by
  obtain ⟨h1, h2⟩ := and2 h
  obtain ⟨h2, h3⟩ := and2 h2
  obtain ⟨h3, h4⟩ := and2 h3
  exact ⟨_, _, _, inv h1, ⟨_, _, inv h2⟩, chkE_ok f h3, chkEs_ok l h4⟩
 | .meth o m l, kd, x, h => by
  obtain ⟨h1, h2⟩ := and2 h
  obtain ⟨h2, h3⟩ := and2 h2
  obtain ⟨h3, h4⟩ := and2 h3
  obtain ⟨h4, h5⟩ := and2 h4
  obtain ⟨h5, h6⟩ := and2 h5
  obtain ⟨h6, h7⟩ := and2 h6
  obtain ⟨h7, h8⟩ := and2 h7
  have e : x = .Call (vw x).a _ _ _ := inv h1
  have e2 : (vw x).a = .Attribute _ (vw (vw x).a).s _ := inv h2
  rw [nmS_of h3] at e2
  exact ⟨_, _, _, _, e.trans (congrArg (PySem.Expr.Call · _ _ _) e2), chkE_ok o h7, h4, chkEs_ok l h8, h5, Nat.le_of_ble_eq_true h6⟩
 | .bin op l r, kd, x, h => by
  obtain ⟨h1, h2⟩ := and2 h
  obtain ⟨h2, h3⟩ := and2 h2
  obtain ⟨h3, h4⟩ := and2 h3
  have e : x = .BinOp _ (vw x).bop _ _ := inv h1
  rw [of_decide_eq_true h2] at e
  exact ⟨_, _, _, e, chkE_ok l h3, chkE_ok r h4⟩
 | .cmp op l r, kd, x, h => by
  obtain ⟨h1, h2⟩ := and2 h
  obtain ⟨h2, h3⟩ := and2 h2
  obtain ⟨h3, h4⟩ := and2 h3
  obtain ⟨h4, h5⟩ := and2 h4
  have e : x = .Compare _ [(vw x).cop] _ _ := inv h1
  rw [of_decide_eq_true h2] at e
  exact ⟨_, _, _, e, chkE_ok l h4, chkE_ok r h5, not_t h3⟩
 | .cmp2 l o1 r o2 z, kd, x, h => by
  obtain ⟨h1, h⟩ := and2 h
  obtain ⟨h2, h⟩ := and2 h
  obtain ⟨h3, h⟩ := and2 h
  obtain ⟨h4, h⟩ := and2 h
  obtain ⟨h5, h⟩ := and2 h
  obtain ⟨h6, h⟩ := and2 h
  obtain ⟨h7, h8⟩ := and2 h
  have e : x = .Compare _ [(vw x).cop, (vw x).cop2] _ _ := inv h1
  rw [of_decide_eq_true h2, of_decide_eq_true h3] at e
  exact ⟨_, _, _, _, e, chkE_ok l h6, chkE_ok r h7, chkE_ok z h8, not_t h4, not_t h5⟩
 | .and l, kd, x, h => let ⟨h1, h2⟩ := and2 h; ⟨_, _, inv h1, chkEs_ok l h2⟩
 | .or l, kd, x, h => let ⟨h1, h2⟩ := and2 h; ⟨_, _, inv h1, chkEs_ok l h2⟩
 | .not e, kd, x, h => let ⟨h1, h2⟩ := and2 h; ⟨_, _, inv h1, chkE_ok e h2⟩
 | .neg e, kd, x, h => let ⟨h1, h2⟩ := and2 h; ⟨_, _, inv h1, chkE_ok e h2⟩
 | .sub o i, kd, x, h => by
  obtain ⟨h1, h2⟩ := and2 h
  obtain ⟨h2, h3⟩ := and2 h2
  obtain ⟨h3, h4⟩ := and2 h3
  exact ⟨_, _, _, inv h1, chkE_ok o h3, chkE_ok i h4, h2⟩
 | .slice o up i, kd, x, h => by
  obtain ⟨h1, h2⟩ := and2 h
  obtain ⟨h2, h3⟩ := and2 h2
  obtain ⟨h3, h4⟩ := and2 h3
  have e : x = .Subscript _ (vw x).b _ := inv h1
  have e2 : (vw x).b = cond up (.Slice none (some (vw (vw x).b).a) none (vw (vw x).b).p) (.Slice (some (vw (vw x).b).a) none none (vw (vw x).b).p) := by
   cases up <;> exact inv h2
  exact ⟨_, _, _, _, e.trans (congrArg (PySem.Expr.Subscript _ · _) e2), chkE_ok o h3, chkE_ok i h4⟩
 | .list l, kd, x, h => by
  obtain ⟨h1, h2⟩ := and2 h
  obtain ⟨h2, h3⟩ := and2 h2
  exact ⟨_, _, inv h1, chkEs_ok l h3, Nat.le_of_ble_eq_true h2⟩
 | .tuple l, kd, x, h => by
  obtain ⟨h1, h2⟩ := and2 h
  obtain ⟨h2, h3⟩ := and2 h2
  exact ⟨_, _, _, inv h1, chkEs_ok l h3, Nat.le_of_ble_eq_true h2⟩
 | .dict l, kd, x, h => by
  obtain ⟨h1, h2⟩ := and2 h
  obtain ⟨h2, h3⟩ := and2 h2
  exact ⟨_, _, _, inv h1, chkPs_ok l h3, Nat.le_of_ble_eq_true h2⟩
 | .listc v xs it ifs, kd, x, h => by
  have k : ∀ o, (vw x).sc = o → (match o with | some sc => Nat.beq (vw x).tag 21 && (decide ((vw x).i = 0) && (notSet (vw x).b && (compOk kd sc xs && (chkT (kdC kd sc) xs (vw x).t && (chkE it kd (vw x).b && (chkE v (kdC kd sc) (vw x).a && chkEs ifs (kdC kd sc) (vw x).m)))))) | none => false) = true → ME (.listc v xs it ifs) kd x := fun o q h => by
   cases o with
   | none => exact no h
   | some sc =>
    obtain ⟨h1, h2⟩ := and2 h
    obtain ⟨h2, h3⟩ := and2 h2
    obtain ⟨h3, h4⟩ := and2 h3
    obtain ⟨h4, h5⟩ := and2 h4
    obtain ⟨h5, h6⟩ := and2 h5
    obtain ⟨h6, h7⟩ := and2 h6
    obtain ⟨h7, h8⟩ := and2 h7
    have e : x = (match (vw x).sc with | some sc => .ListComp (vw x).a [⟨(vw x).t, (vw x).b, (vw x).m, (vw x).i⟩] sc (vw x).p | none => x) := inv h1
    rw [q, of_decide_eq_true h2] at e
    exact ⟨_, _, _, _, _, _, e, chkE_ok it h6, h3, h4, chkE_ok v h7, chkT_ok h5, chkEs_ok ifs h8⟩
  exact k _ rfl h
 | .dictc y v n it ifs, kd, x, h => by
  have k : ∀ o, (vw x).sc = o → (match o with | some sc => Nat.beq (vw x).tag 22 && (decide ((vw x).i = 0) && (notSet (vw x).b && (compOk kd sc [n] && (chkT (kdC kd sc) [n] (vw x).t && (chkE it kd (vw x).b && (chkE y (kdC kd sc) (vw x).a && (chkE v (kdC kd sc) (vw x).d && chkEs ifs (kdC kd sc) (vw x).m))))))) | none => false) = true → ME (.dictc y v n it ifs) kd x := fun o q h => by
   cases o with
   | none => exact no h
   | some sc =>
    obtain ⟨h1, h2⟩ := and2 h
    obtain ⟨h2, h3⟩ := and2 h2
    obtain ⟨h3, h4⟩ := and2 h3
    obtain ⟨h4, h5⟩ := and2 h4
    obtain ⟨h5, h6⟩ := and2 h5
    obtain ⟨h6, h7⟩ := and2 h6
    obtain ⟨h7, h8⟩ := and2 h7
    obtain ⟨h8, h9⟩ := and2 h8
    have e : x = (match (vw x).sc with | some sc => .DictComp (vw x).a (vw x).d [⟨(vw x).t, (vw x).b, (vw x).m, (vw x).i⟩] sc (vw x).p | none => x) := inv h1
    rw [q, of_decide_eq_true h2] at e
    exact ⟨_, _, _, _, _, _, _, e, chkE_ok it h6, h3, h4, chkE_ok y h7, chkE_ok v h8, chkT_ok h5, chkEs_ok ifs h9⟩
  exact k _ rfl h
 | .setc .., kd, x, h => no h
theorem chkEs_ok : ∀ (p : PEs) {kd : Kd} {x : List PySem.Expr}, chkEs p kd x = true → MEs p kd x
 | .nil, kd, x, h => List.isEmpty_iff.mp h
 | .cons e l, kd, x, h => by
  cases x with
  | nil => exact no h
  | cons e' l' =>
   obtain ⟨h1, h2⟩ := and2 h
   obtain ⟨h2, h3⟩ := and2 h2
   exact ⟨_, _, rfl, chkE_ok e h2, chkEs_ok l h3, h1⟩
theorem chkPs_ok : ∀ (p : PEs) {kd : Kd} {ks : List (Option PySem.Expr)} {vs : List PySem.Expr}, chkPs p kd ks vs = true → MPs p kd ks vs
 | .nil, kd, ks, vs, h => let ⟨h1, h2⟩ := and2 h; ⟨List.isEmpty_iff.mp h1, List.isEmpty_iff.mp h2⟩
 | .cons k .nil, kd, ks, vs, h => no h
 | .cons k (.cons v l), kd, ks, vs, h => by
  cases ks with
  | nil => exact no h
  | cons k' ks => cases k' with
   | none => exact no h
   | some k' => cases vs with
    | nil => exact no h
    | cons v' vs =>
     obtain ⟨h1, h2⟩ := and2 h
     obtain ⟨h2, h3⟩ := and2 h2
     exact ⟨_, _, _, _, rfl, rfl, chkE_ok k h1, chkE_ok v h2, chkPs_ok l h3⟩
end
end Mine
end
section
open PySem PySem.W PyProof.Rows
namespace Mine
noncomputable def namesEq : List Nat → List Str → Bool
 | [], l => l.isEmpty
 | x :: xs, l => (match l with | y :: ys => chkN x y && namesEq xs ys | [] => false)
theorem namesEq_eq {xs : List Nat} : ∀ {ys : List Str}, namesEq xs ys = true → ys = xs.map nmS := by
 induction xs with
 | nil => intro ys h; exact List.isEmpty_iff.mp h
 | cons x xs ih => intro ys h; cases ys with
  | nil => exact no h
  | cons y ys =>
   obtain ⟨h1, h2⟩ := and2 h
   rw [nmS_of h1, ih h2]; rfl
noncomputable def swapEq (xs : List Nat) : Option (List Str) → Bool
 | some ys => namesEq xs ys
 | none => false
theorem swapEq_eq {o : Option (List Str)} {xs : List Nat} (h : swapEq xs o = true) : o = some (xs.map nmS) := by
 cases o with
 | none => exact no h
 | some ys => rw [namesEq_eq h]
structure W where
 tag : Nat
 p : Pos
 a : Option PySem.Expr
 t : Option PySem.Expr
 l : List Stmt
 m : List Stmt
 h : Option (ExceptHandler × List ExceptHandler)
noncomputable def sw (x : Stmt) : W := match x with
 | .Pass p => ⟨1, p, none, none, [], [], none⟩
 | .Return none p => ⟨2, p, none, none, [], [], none⟩
 | .Return (some e) p => ⟨3, p, some e, none, [], [], none⟩
 | .Expr e p => ⟨4, p, some e, none, [], [], none⟩
 | .Assign [t] e p => ⟨5, p, some e, some t, [], [], none⟩
 | .Delete [t] p => ⟨6, p, none, some t, [], [], none⟩
 | .If t b e p => ⟨7, p, none, some t, b, e, none⟩
 | .While t b [] p => ⟨8, p, none, some t, b, [], none⟩
 | .For t it b [] p => ⟨9, p, some it, some t, b, [], none⟩
 | .Try b (h :: hs) [] [] p => ⟨10, p, none, none, b, [], some (h, hs)⟩
 | .Raise (some e) none p => ⟨11, p, some e, none, [], [], none⟩
 | .Raise none none p => ⟨12, p, none, none, [], [], none⟩
 | _ => ⟨0, ⟨0, 0, 0, 0⟩, none, none, [], [], none⟩
noncomputable def sk (t : Nat) (w : W) (x : Stmt) : Stmt := match t with
 | 1 => .Pass w.p
 | 2 => .Return none w.p
 | 3 => (match w.a with | some e => .Return (some e) w.p | none => x)
 | 4 => (match w.a with | some e => .Expr e w.p | none => x)
 | 5 => (match w.a with | some e => (match w.t with | some t => .Assign [t] e w.p | none => x) | none => x)
 | 6 => (match w.t with | some t => .Delete [t] w.p | none => x)
 | 7 => (match w.t with | some t => .If t w.l w.m w.p | none => x)
 | 8 => (match w.t with | some t => .While t w.l [] w.p | none => x)
 | 9 => (match w.a with | some e => (match w.t with | some t => .For t e w.l [] w.p | none => x) | none => x)
 | 11 => (match w.a with | some e => .Raise (some e) none w.p | none => x)
 | 12 => .Raise none none w.p
 | 10 => (match w.h with | some h => .Try w.l (h.1 :: h.2) [] [] w.p | none => x)
 | _ => x
theorem sk_ok (x : Stmt) : x = sk (sw x).tag (sw x) x := by
 cases x with
 | Return e p => cases e <;> rfl
 | Assign ts e p => cases ts with
  | nil => rfl
  | cons t ts => cases ts <;> rfl
 | Delete ts p => cases ts with
  | nil => rfl
  | cons t ts => cases ts <;> rfl
 | While t b e p => cases e <;> rfl
 | For t it b e p => cases e <;> rfl
 | Try b hs e f p => cases hs with
  | nil => rfl
  | cons h hs => cases e with
   | cons => rfl
   | nil => cases f <;> rfl
 | Raise e f p => cases e <;> cases f <;> rfl
 | _ => rfl
theorem sinv {x : Stmt} {t : Nat} (h : Nat.beq (sw x).tag t = true) : x = sk t (sw x) x := (sk_ok x).trans (by rw [Nat.eq_of_beq_eq_true h])
noncomputable def hv (h : ExceptHandler) : Option (PySem.Expr × Str × List Stmt × Pos) := match h with
 | .ExceptHandler (some t) (some n) b p => some (t, n, b, p)
 | _ => none
theorem hv_ok {h : ExceptHandler} {q : PySem.Expr × Str × List Stmt × Pos} (e : hv h = some q) : h = .ExceptHandler (some q.1) (some q.2.1) q.2.2.1 q.2.2.2 := by
 obtain ⟨t, n, b, p⟩ := h
 cases t <;> cases n <;> cases e
 rfl
noncomputable def onE (f : PySem.Expr → Bool) : Option PySem.Expr → Bool
 | some e => f e
 | none => false
theorem onE_ok {f : PySem.Expr → Bool} {o : Option PySem.Expr} (h : onE f o = true) : ∃ e, o = some e ∧ f e = true := by
 cases o with
 | none => exact no h
 | some e => exact ⟨e, rfl, h⟩
mutual
noncomputable def chkSt : PS → Kd → Stmt → Bool
 | .bad, _, _ => true
 | .pass, _, x => Nat.beq (sw x).tag 1
 | .ret0, _, x => Nat.beq (sw x).tag 2
 | .ret e, kd, x => Nat.beq (sw x).tag 3 && onE (chkE e kd) (sw x).a
 | .expr e, kd, x => Nat.beq (sw x).tag 4 && onE (fun e' => notComp e' && chkE e kd e') (sw x).a
 | .asg n e, kd, x => Nat.beq (sw x).tag 5 && (onE (fun e' => (notComp e' || kd (nmS n) == some .cell) && chkE e kd e') (sw x).a && onE (chkName kd n) (sw x).t)
 | .asgC n v xs it ifs, kd, x => Nat.beq (sw x).tag 5 && onE (fun e' => chkE (.listc v xs it ifs) kd e' && onE (fun t => chkName kd n t && swp kd e' (nmS n) t.pos) (sw x).t) (sw x).a
 | .asgA o a e, kd, x => Nat.beq (sw x).tag 5 && (onE (chkE e kd) (sw x).a && onE (fun t => Nat.beq (vw t).tag 7 && (chkN a (vw t).s && chkE o kd (vw t).a)) (sw x).t)
 | .asgS o i e, kd, x => Nat.beq (sw x).tag 5 && (onE (fun e' => notComp e' && chkE e kd e') (sw x).a && onE (fun t => Nat.beq (vw t).tag 15 && (chkE o kd (vw t).a && chkE i kd (vw t).b)) (sw x).t)
 | .asgT xs e, kd, x => Nat.beq (sw x).tag 5 && (onE (fun e' => notTup e' && chkE e kd e') (sw x).a && onE (fun t => Nat.beq (vw t).tag 19 && (Nat.ble 2 xs.length && chkNs kd xs (vw t).l)) (sw x).t)
 | .asgW xs e, kd, x => Nat.beq (sw x).tag 5 && (onE (fun e' => Nat.beq (vw e').tag 19 && (chkE e kd e' && onE (fun t => Nat.beq (vw t).tag 19 && swapEq xs (swapB kd (vw t).l (vw e').l)) (sw x).t)) (sw x).a)
 | .delS o i, kd, x => Nat.beq (sw x).tag 6 && onE (fun t => Nat.beq (vw t).tag 15 && (chkE o kd (vw t).a && chkE i kd (vw t).b)) (sw x).t
 | .ite t b e, kd, x => Nat.beq (sw x).tag 7 && (onE (chkE t kd) (sw x).t && (chkSs b kd (sw x).l && chkSs e kd (sw x).m))
 | .whl t b, kd, x => Nat.beq (sw x).tag 8 && (onE (chkE t kd) (sw x).t && chkSs b kd (sw x).l)
 | .for1 xs it b, kd, x => Nat.beq (sw x).tag 9 && (onE (fun e => notSet e && chkE it kd e) (sw x).a && (onE (chkT kd xs) (sw x).t && chkSs b kd (sw x).l))
 | .try b cl y h, kd, x => Nat.beq (sw x).tag 10 && ((match (sw x).h with
   | some g => g.2.isEmpty && (match hv g.1 with
    | some q => Nat.beq (vw q.1).tag 1 && (chkN cl (vw q.1).s && (isGlb (kd (vw q.1).s) && (!isDbg (vw q.1).s && (chkN y q.2.1 && (kd (nmS y) == some .local && chkSs h kd q.2.2.1)))))
    | none => false)
   | none => false) && chkSs b kd (sw x).l)
 | .raise e, kd, x => Nat.beq (sw x).tag 11 && onE (chkE e kd) (sw x).a
 | .reraise, _, x => Nat.beq (sw x).tag 12
noncomputable def chkSs : PSs → Kd → List Stmt → Bool
 | .nil, _, l => l.isEmpty
 | .cons e l, kd, x => (match x with | e' :: l' => chkSt e kd e' && chkSs l kd l' | [] => false)
end
theorem inv5 {x : Stmt} {e t : PySem.Expr} (h : Nat.beq (sw x).tag 5 = true) (q1 : (sw x).a = some e) (q2 : (sw x).t = some t) : x = .Assign [t] e (sw x).p := by
 have z : x = (match (sw x).a with | some e => (match (sw x).t with | some t => .Assign [t] e (sw x).p | none => x) | none => x) := sinv h
 rw [q1, q2] at z
 exact z
mutual
theorem chkSt_ok : ∀ (p : PS) {kd : Kd} {x : Stmt}, chkSt p kd x = true → MS p kd x
 | .bad, _, _, _ => trivial
 | .pass, kd, x, h => ⟨_, sinv h⟩
 | .ret0, kd, x, h => ⟨_, sinv h⟩
 | .ret e, kd, x, h => by
  obtain ⟨h1, h2⟩ := and2 h
  obtain ⟨e', q, h2⟩ := onE_ok h2
  have z : x = (match (sw x).a with | some e => .Return (some e) (sw x).p | none => x) := sinv h1
  rw [q] at z
  exact ⟨_, _, z, chkE_ok e h2⟩
 | .expr e, kd, x, h => by
  obtain ⟨h1, h2⟩ := and2 h
  obtain ⟨e', q, h2⟩ := onE_ok h2
  obtain ⟨h2, h3⟩ := and2 h2
  have z : x = (match (sw x).a with | some e => .Expr e (sw x).p | none => x) := sinv h1
  rw [q] at z
  exact ⟨_, _, z, chkE_ok e h3, h2⟩
 | .asg n e, kd, x, h => by
  obtain ⟨h1, h2⟩ := and2 h
  obtain ⟨h2, h3⟩ := and2 h2
  obtain ⟨e', q, h2⟩ := onE_ok h2
  obtain ⟨t', q', h3⟩ := onE_ok h3
  obtain ⟨h2, h4⟩ := and2 h2
  obtain ⟨np, rfl, h5⟩ := chkName_ok h3
  exact ⟨np, e', _, inv5 h1 q q', chkE_ok e h4, ((Bool.or_eq_true _ _).mp h2).imp id eq_of_beq, h5⟩
 | .asgC n v xs it ifs, kd, x, h => by
  obtain ⟨h1, h2⟩ := and2 h
  obtain ⟨e', q, h2⟩ := onE_ok h2
  obtain ⟨h2, h3⟩ := and2 h2
  obtain ⟨t', q', h3⟩ := onE_ok h3
  obtain ⟨h3, h4⟩ := and2 h3
  obtain ⟨np, rfl, h5⟩ := chkName_ok h3
  exact ⟨np, e', _, inv5 h1 q q', chkE_ok (.listc v xs it ifs) h2, h4⟩
 | .asgA o a e, kd, x, h => by
  obtain ⟨h1, h2⟩ := and2 h
  obtain ⟨h2, h3⟩ := and2 h2
  obtain ⟨e', q, h2⟩ := onE_ok h2
  obtain ⟨t', q', h3⟩ := onE_ok h3
  obtain ⟨h3, h4⟩ := and2 h3
  obtain ⟨h4, h5⟩ := and2 h4
  have z : t' = .Attribute _ (vw t').s _ := inv h3
  rw [nmS_of h4] at z
  exact ⟨_, _, _, _, (inv5 h1 q q').trans (congrArg (fun t => Stmt.Assign [t] _ _) z), chkE_ok o h5, chkE_ok e h2⟩
 | .asgS o i e, kd, x, h => by
  obtain ⟨h1, h2⟩ := and2 h
  obtain ⟨h2, h3⟩ := and2 h2
  obtain ⟨e', q, h2⟩ := onE_ok h2
  obtain ⟨t', q', h3⟩ := onE_ok h3
  obtain ⟨h2, h6⟩ := and2 h2
  obtain ⟨h3, h4⟩ := and2 h3
  obtain ⟨h4, h5⟩ := and2 h4
  exact ⟨_, _, _, _, _, (inv5 h1 q q').trans (congrArg (fun t => Stmt.Assign [t] _ _) (inv h3)), chkE_ok o h4, chkE_ok i h5, chkE_ok e h6, h2⟩
 | .asgT xs e, kd, x, h => by
  obtain ⟨h1, h2⟩ := and2 h
  obtain ⟨h2, h3⟩ := and2 h2
  obtain ⟨e', q, h2⟩ := onE_ok h2
  obtain ⟨t', q', h3⟩ := onE_ok h3
  obtain ⟨h2, h6⟩ := and2 h2
  obtain ⟨h3, h4⟩ := and2 h3
  obtain ⟨h4, h5⟩ := and2 h4
  exact ⟨_, _, _, _, _, (inv5 h1 q q').trans (congrArg (fun t => Stmt.Assign [t] _ _) (inv h3)), chkE_ok e h6, chkNs_ok h5, Nat.le_of_ble_eq_true h4, h2⟩
 | .asgW xs e, kd, x, h => by
  obtain ⟨h1, h2⟩ := and2 h
  obtain ⟨e', q, h2⟩ := onE_ok h2
  obtain ⟨h2, h3⟩ := and2 h2
  obtain ⟨h3, h4⟩ := and2 h3
  obtain ⟨t', q', h4⟩ := onE_ok h4
  obtain ⟨h4, h5⟩ := and2 h4
  have z : e' = .Tuple _ _ _ := inv h2
  have m := chkE_ok e h3
  have y := inv5 h1 q q'
  rw [z] at m
  exact ⟨_, _, _, _, _, _, _, y.trans ((congrArg (fun t => Stmt.Assign [t] _ _) (inv h4)).trans (congrArg (fun t => Stmt.Assign _ t _) z)), m, swapEq_eq h5⟩
 | .delS o i, kd, x, h => by
  obtain ⟨h1, h2⟩ := and2 h
  obtain ⟨t', q', h3⟩ := onE_ok h2
  obtain ⟨h3, h4⟩ := and2 h3
  obtain ⟨h4, h5⟩ := and2 h4
  have z : x = (match (sw x).t with | some t => .Delete [t] (sw x).p | none => x) := sinv h1
  rw [q'] at z
  exact ⟨_, _, _, _, z.trans (congrArg (fun t => Stmt.Delete [t] _) (inv h3)), chkE_ok o h4, chkE_ok i h5⟩
 | .ite t b e, kd, x, h => by
  obtain ⟨h1, h2⟩ := and2 h
  obtain ⟨h2, h3⟩ := and2 h2
  obtain ⟨h3, h4⟩ := and2 h3
  obtain ⟨t', q', h2⟩ := onE_ok h2
  have z : x = (match (sw x).t with | some t => .If t (sw x).l (sw x).m (sw x).p | none => x) := sinv h1
  rw [q'] at z
  exact ⟨_, _, _, _, z, chkE_ok t h2, chkSs_ok b h3, chkSs_ok e h4⟩
 | .whl t b, kd, x, h => by
  obtain ⟨h1, h2⟩ := and2 h
  obtain ⟨h2, h3⟩ := and2 h2
  obtain ⟨t', q', h2⟩ := onE_ok h2
  have z : x = (match (sw x).t with | some t => .While t (sw x).l [] (sw x).p | none => x) := sinv h1
  rw [q'] at z
  exact ⟨_, _, _, z, chkE_ok t h2, chkSs_ok b h3⟩
 | .for1 xs it b, kd, x, h => by
  obtain ⟨h1, h2⟩ := and2 h
  obtain ⟨h2, h3⟩ := and2 h2
  obtain ⟨h3, h4⟩ := and2 h3
  obtain ⟨e', q, h2⟩ := onE_ok h2
  obtain ⟨t', q', h3⟩ := onE_ok h3
  obtain ⟨h2, h5⟩ := and2 h2
  have z : x = (match (sw x).a with | some e => (match (sw x).t with | some t => .For t e (sw x).l [] (sw x).p | none => x) | none => x) := sinv h1
  rw [q, q'] at z
  exact ⟨_, _, _, _, z, chkT_ok h3, chkE_ok it h5, h2, chkSs_ok b h4⟩
 | .try b cl y hd, kd, x, h => by
  obtain ⟨h1, h2⟩ := and2 h
  obtain ⟨h2, h3⟩ := and2 h2
  have z : x = (match (sw x).h with | some h => .Try (sw x).l (h.1 :: h.2) [] [] (sw x).p | none => x) := sinv h1
  cases q : (sw x).h with
  | none => rw [q] at h2; exact no h2
  | some g =>
   rw [q] at h2 z
   obtain ⟨h4, h5⟩ := and2 h2
   cases r : hv g.1 with
   | none => rw [r] at h5; exact no h5
   | some u =>
    rw [r] at h5
    obtain ⟨h5, h6⟩ := and2 h5
    obtain ⟨h6, h7⟩ := and2 h6
    obtain ⟨h7, h8⟩ := and2 h7
    obtain ⟨h8, h9⟩ := and2 h8
    obtain ⟨h9, h10⟩ := and2 h9
    obtain ⟨h10, h11⟩ := and2 h10
    have e : u.1 = .Name (vw u.1).s _ := inv h5
    rw [nmS_of h6] at h7 h8 e
    have e3 := hv_ok r
    rw [e, nmS_of h9] at e3
    have e4 : x = .Try (sw x).l (g.1 :: g.2) [] [] (sw x).p := z
    rw [List.isEmpty_iff.mp h4, e3] at e4
    exact ⟨_, _, _, _, _, e4, chkSs_ok b h3, chkSs_ok hd h11, isGlb_eq h7, not_t h8, eq_of_beq h10⟩
 | .raise e, kd, x, h => by
  obtain ⟨h1, h2⟩ := and2 h
  obtain ⟨e', q, h2⟩ := onE_ok h2
  have z : x = (match (sw x).a with | some e => .Raise (some e) none (sw x).p | none => x) := sinv h1
  rw [q] at z
  exact ⟨_, _, z, chkE_ok e h2⟩
 | .reraise, kd, x, h => ⟨_, sinv h⟩
theorem chkSs_ok : ∀ (p : PSs) {kd : Kd} {x : List Stmt}, chkSs p kd x = true → MSs p kd x
 | .nil, kd, x, h => List.isEmpty_iff.mp h
 | .cons e l, kd, x, h => by
  cases x with
  | nil => exact no h
  | cons e' l' =>
   obtain ⟨h1, h2⟩ := and2 h
   exact ⟨_, _, rfl, chkSt_ok e h1, chkSs_ok l h2⟩
end
end Mine
end
section
open PySem PySem.W PyProof.Rows
namespace Mine
theorem peek_bind {α β : Type} {K : Frag} {S : Setting} {f : α → Sem β} {a : α} {m : Sem α} : peek K S m = some a → peek K S (m >>= f) = peek K S (f a) := by
 show peek K S m = some a → peek K S (Sem.bind m f) = _
 induction m with
 | pure b => intro h; cases h; rfl
 | rule r k ih => intro h; exact ih () h
 | point r k ih => intro h; exact ih () h
 | ask k ih => intro h; exact ih S h
 | load ad p k ih =>
  intro h
  have h : (match K.lookup ad with | some o => peek K S (k o) | none => none) = some a := by
   unfold peek at h; exact h
  cases q : K.lookup ad with
  | none => rw [q] at h; cases h
  | some o =>
   rw [q] at h
   refine Eq.trans ?_ (ih o h)
   rw [show Sem.bind (Sem.load ad p k) f = Sem.load ad p (fun o => Sem.bind (k o) f) from rfl]
   simp only [peek, q]
 | _ => intro h; cases h
theorem look_none {l : List (Str × Value)} {x : Str} (h : x ∉ l.map (·.1)) : l.lookup x = none := by
 induction l with
 | nil => rfl
 | cons p l ih =>
  rw [List.map_cons, List.mem_cons, not_or] at h
  rw [List.lookup_cons, beq_false_of_ne h.1]
  exact ih h.2
theorem look_gen (l : List (Str × Value)) : ∀ (pre : List (Str × Value)), (∀ p ∈ l, p.1 ∉ pre.map (·.1)) → (l.map (·.1)).Nodup → (l.map (·.1)).filterMap (fun n => ((pre ++ l).lookup n).map (n, ·)) = l := by
 induction l with
 | nil => intro pre _ _; rfl
 | cons p l ih =>
  obtain ⟨y, v⟩ := p
  intro pre h1 h2
  rw [List.map_cons, List.nodup_cons] at h2
  have e : (pre ++ (y, v) :: l).lookup y = some v := by
   rw [List.lookup_append, look_none (h1 (y, v) (.head _)), List.lookup_cons, beq_self_eq_true]; rfl
  rw [List.map_cons, List.filterMap_cons, e]
  have := ih (pre ++ [(y, v)]) (fun p hp => by
   rw [List.map_append, List.mem_append]
   rintro (h | h)
   ·exact h1 p (.tail _ hp) h
   ·have e : p.1 = y := List.mem_singleton.mp h
    have m : p.1 ∈ l.map (·.1) := List.mem_map_of_mem hp
    rw [e] at m
    exact h2.1 m) h2.2
  rw [List.append_assoc] at this
  exact congrArg ((y, v) :: ·) this
theorem bindV_zip {ps : List Nat} : ∀ {vals ds : List Value} {k : Nat} {b : List (Str × Value)}, bindV ps vals ds k = some b → vals.length ≤ ps.length ∧ (vals.length < ps.length → k ≤ vals.length) ∧ ∃ r r2, ds = r ++ r2 ∧ b = (ps.map nmS).zip (vals ++ r) ∧ r.length + vals.length = ps.length := by
 induction ps with
 | nil => intro vals ds k b e; cases vals with
  | nil => cases e; exact ⟨Nat.le_refl _, fun h => absurd h (Nat.lt_irrefl _), [], ds, rfl, rfl, rfl⟩
  | cons => cases e
 | cons x xs ih => intro vals ds k b e; cases vals with
  | cons a as =>
   have e : (match bindV xs as ds (k - 1) with | some l => some ((nmS x, a) :: l) | none => none) = some b := e
   cases q : bindV xs as ds (k - 1) with
   | none => rw [q] at e; cases e
   | some l =>
    rw [q] at e
    cases e
    obtain ⟨h1, h2, r, r2, h3, h4, h5⟩ := ih q
    refine ⟨Nat.succ_le_succ h1, fun h => ?_, r, r2, h3, by rw [h4]; rfl, by rw [List.length_cons, List.length_cons, ← h5]; rfl⟩
    have := h2 (Nat.lt_of_succ_lt_succ h)
    exact Nat.le_add_of_sub_le this
  | nil =>
   cases q : Nat.beq k 0 with
   | false =>
    have e : (match Nat.beq k 0 with | true => _ | false => none) = some b := e
    rw [q] at e; cases e
   | true => cases ds with
    | nil =>
     have e : (match Nat.beq k 0 with | true => none | false => none) = some b := e
     rw [q] at e; cases e
    | cons v ds =>
     have e : (match Nat.beq k 0 with | true => (match bindV xs [] ds 0 with | some l => some ((nmS x, v) :: l) | none => none) | false => none) = some b := e
     rw [q] at e
     cases q' : bindV xs [] ds 0 with
     | none => rw [q'] at e; cases e
     | some l =>
      rw [q'] at e
      cases e
      obtain ⟨h1, h2, r, r2, h3, h4, h5⟩ := ih q'
      exact ⟨Nat.zero_le _, fun _ => Nat.le_of_eq (Nat.eq_of_beq_eq_true q), v :: r, r2, by rw [h3]; rfl, by rw [h4]; rfl, by rw [List.length_cons, List.length_cons, ← h5]; rfl⟩
structure Plain (p : Arguments) (names : List Str) : Prop where
 po : p.posonlyargs = []
 args : p.args.map (·.arg) = names
 va : p.vararg = none
 ko : p.kwonlyargs = []
 kw : p.kwarg = none
noncomputable def fillG (s : List (Str × Value)) (p : Str × Value) : List (Str × Value) := if (s.lookup p.1).isNone then s ++ [p] else s
theorem fold_dfl (l : List (Str × Value)) : ∀ (sl : List (Str × Value)), (sl.map (·.1) ++ l.map (·.1)).Nodup → l.foldl fillG sl = sl ++ l := by
 induction l with
 | nil => intro sl _; exact (List.append_nil _).symm
 | cons p l ih =>
  intro sl nd
  have hn : p.1 ∉ sl.map (·.1) := fun h => (List.nodup_append.mp nd).2.2 p.1 h p.1 (.head _) rfl
  rw [List.foldl_cons, show fillG sl p = sl ++ [p] by unfold fillG; rw [look_none hn]; rfl, ih, List.append_assoc]
  ·rfl
  ·rw [List.map_append, List.append_assoc]; exact nd
theorem fold_skip (l : List (Str × Value)) (sl : List (Str × Value)) (h : ∀ p ∈ l, (sl.lookup p.1).isNone = false) : l.foldl fillG sl = sl := by
 induction l with
 | nil => rfl
 | cons p l ih =>
  rw [List.foldl_cons, show fillG sl p = sl by unfold fillG; rw [h p (.head _)]; rfl]
  exact ih fun p hp => h p (.tail _ hp)
theorem zip_has {x : Str} {names : List Str} : ∀ {vals : List Value}, x ∈ names.take vals.length → ((names.zip vals).lookup x).isNone = false := by
 induction names with
 | nil => intro vals h; rw [List.take_nil] at h; cases h
 | cons y names ih => intro vals h; cases vals with
  | nil => cases h
  | cons v vals =>
   rw [List.zip_cons_cons, List.lookup_cons]
   by_cases q : x = y
   ·rw [q, beq_self_eq_true]; rfl
   ·rw [beq_false_of_ne q]
    exact ih ((List.mem_cons.mp h).resolve_left q)
theorem zip_take' {α β : Type} (a : List α) : ∀ (b : List β), (a.take b.length).zip b = a.zip b := by
 induction a with
 | nil => intro b; rw [List.take_nil]
 | cons x a ih => intro b; cases b with
  | nil => rw [List.zip_nil_right, List.zip_nil_right]
  | cons y b => rw [List.length_cons, List.take_succ_cons, List.zip_cons_cons, List.zip_cons_cons, ih b]
theorem fst_zip' {α β : Type} (a : List α) : ∀ (b : List β), (a.zip b).map (·.1) = a.take b.length := by
 induction a with
 | nil => intro b; rw [List.take_nil]; rfl
 | cons x a ih => intro b; cases b with
  | nil => rfl
  | cons y b => rw [List.zip_cons_cons, List.map_cons, List.length_cons, List.take_succ_cons, ih b]
theorem drop_zip' {α β : Type} (n : Nat) : ∀ (a : List α) (b : List β), (a.zip b).drop n = (a.drop n).zip (b.drop n) ∧ (a.zip b).take n = (a.take n).zip (b.take n) := by
 induction n with
 | zero => exact fun a b => ⟨rfl, rfl⟩
 | succ n ih => intro a b; cases a with
  | nil => exact ⟨rfl, rfl⟩
  | cons x a => cases b with
   | nil => exact ⟨by rw [List.drop_nil, List.zip_nil_right, List.zip_nil_right, List.drop_nil], by rw [List.take_nil, List.zip_nil_right, List.zip_nil_right, List.take_nil]⟩
   | cons y b => exact ⟨(ih a b).1, congrArg ((x, y) :: ·) (ih a b).2⟩
theorem ar1 {d p v r r2 : Nat} (h : d - (v - (p - d)) = r + r2) (h5 : r + v = p) (km : p - d ≤ v) (hl : d ≤ p) : r2 = 0 := by omega
theorem ar2 {d p v : Nat} (km : p - d ≤ v) : p - d + (v - (p - d)) = v := Nat.add_sub_cancel' km
theorem bind_ok {K : Frag} {fd : FuncData} {ps : List Nat} {dv : List Value} (pl : Plain fd.params (ps.map nmS)) (nd : ps.Nodup) (hl : dv.length ≤ ps.length)
  (hd : ∀ S, ∃ o, peek K S (seqItems? fd.defaults) = some o ∧ (o.getD #[]).toList = dv) {vals : List Value} {b : List (Str × Value)}
  (hb : bindV ps vals (dv.drop (vals.length - (ps.length - dv.length))) (ps.length - dv.length) = some b) (S : Setting) : peek K S (bindArgs fd ⟨vals, []⟩) = some b := by
 obtain ⟨h1, h2, r, r2, h3, h4, h5⟩ := bindV_zip hb
 obtain ⟨od, g1, g2⟩ := hd S
 have nd' : (ps.map nmS).Nodup := List.Pairwise.map nmS (fun a b h e => h (nmS_inj e)) nd
 generalize hN : ps.map nmS = names at *
 have ln : names.length = ps.length := by rw [← hN, List.length_map]
 obtain ⟨fn, fq, ⟨po, ar, va, ko, kd, kw, df⟩, fb, fs, fg, fc, fdd, fk, x1, x2, x3, x4, x5, x6⟩ := fd
 obtain ⟨p1, p2, p3, p4, p5⟩ := pl
 dsimp only at p1 p2 p3 p4 p5 g1
 subst p1; subst p2; subst p3; subst p4; subst p5
 unfold bindArgs
 show peek K S (seqItems? fdd >>= _) = _
 refine (peek_bind g1).trans ?_
 dsimp only
 rw [g2, show List.map (fun x : Arg => x.arg) [] ++ List.map (fun x : Arg => x.arg) ar = List.map (fun x : Arg => x.arg) ar from rfl, List.map_nil, List.append_nil]
 generalize List.map (fun x : Arg => x.arg) ar = names at *
 have km : ps.length - dv.length ≤ vals.length := by
  rcases Nat.lt_or_ge vals.length ps.length with q | q
  ·exact h2 q
  ·exact Nat.le_trans (Nat.sub_le _ _) q
 have e0 : dv.drop (dv.length - names.length) = dv := by rw [Nat.sub_eq_zero_of_le (by rw [ln]; exact hl)]; rfl
 rw [e0]
 have miss : (List.filter (fun n => ((names.zip vals).lookup n).isNone) (names.take (names.length - dv.length))) = [] := by
  rw [List.filter_eq_nil_iff]
  intro x hx
  rw [zip_has]
  ·exact Bool.false_ne_true
  ·exact (List.take_subset_take_left names (by rw [ln]; exact km)) hx
 have fold : ∀ {f : Str × Value → List (Str × Value) → Sem (ForInStep (List (Str × Value)))} (l : List (Str × Value)), (∀ x b, f x b = pure (.yield (fillG b x))) → ∀ b, forIn l b f = pure (l.foldl fillG b) := by
  intro f l h
  induction l with
  | nil => exact fun b => rfl
  | cons x l ih => intro b; rw [List.forIn_cons, h x b]; exact ih _
 rw [if_neg (by simp; omega), if_neg (by rw [miss]; simp)]
 rw [fold _ (fun x b => by unfold fillG; split <;> rfl)]
 have hr2 : r2 = [] := by
  have := congrArg List.length h3
  rw [List.length_drop, List.length_append] at this
  exact List.eq_nil_of_length_eq_zero (ar1 this h5 km hl)
 subst hr2
 rw [List.append_nil] at h3
 have hfold : ((names.drop (names.length - dv.length)).zip dv).foldl fillG (names.zip vals) = names.zip (vals ++ r) := by
  have skip : ∀ p ∈ ((names.drop (names.length - dv.length)).zip dv).take (vals.length - (names.length - dv.length)), ((names.zip vals).lookup p.1).isNone = false := by
   intro p hp
   refine zip_has ?_
   rw [(drop_zip' _ _ _).2] at hp
   have := (List.of_mem_zip hp).1
   rw [List.take_drop] at this
   have := List.mem_of_mem_drop this
   rw [ar2 (by rw [ln]; exact km)] at this
   exact this
  rw [← List.take_append_drop (vals.length - (names.length - dv.length)) ((names.drop (names.length - dv.length)).zip dv), List.foldl_append, fold_skip _ _ skip]
  ·rw [(drop_zip' _ _ _).1, List.drop_drop, ln, h3, ar2 km, fold_dfl]
   ·conv => rhs; rw [← List.take_append_drop vals.length names, List.zip_append (by rw [List.length_take, ln]; exact Nat.min_eq_left h1)]
    rw [zip_take']
   ·rw [fst_zip', fst_zip']
    refine List.Nodup.sublist ?_ nd'
    conv => rhs; rw [← List.take_append_drop vals.length names]
    exact List.Sublist.append (List.Sublist.refl _) (List.take_sublist _ _)
 rw [hfold]
 show some ((names.filterMap fun n => Option.map (fun x => (n, x)) ((names.zip (vals ++ r)).lookup n))) = some b
 have lz : names.length = (vals ++ r).length := by rw [List.length_append, ln, Nat.add_comm]; exact h5.symm
 have := look_gen (names.zip (vals ++ r)) [] (fun p hp => by simp) (by rw [List.map_fst_zip (Nat.le_of_eq lz)]; exact nd')
 rw [List.map_fst_zip (Nat.le_of_eq lz)] at this
 rw [h4]
 exact congrArg some this
end Mine
end
section
open PySem PySem.W PyProof.Rows
namespace Mine
noncomputable def isV (a : AV) (v : Value) : Bool := match a with
 | .none => (match v with | .none => true | _ => false)
 | .bool b => (match v with | .bool b' => decide (b' = b) | _ => false)
 | .int i => (match v with | .int j _ => decide (j = i) | _ => false)
 | .str s => (match v with | .str x _ => decide (s = x.cps.toList) | _ => false)
 | .obj a => (match v with | .ref b => Nat.beq a b | _ => false)
 | .typ t => (match v with | .type x => x == t.nm | _ => false)
 | .bi f => (match v with | .builtin x => x == f.id | _ => false)
 | .ref _ => false
theorem isV_ok {a : AV} {v : Value} (h : isV a v = true) : VR 0 (fun _ => 0) a v := by
 cases a with
 | none => cases v <;> first | exact no h | rfl
 | bool b =>
  cases v <;> first | exact no h | skip
  exact congrArg Value.bool (of_decide_eq_true h)
 | int i =>
  cases v <;> first | exact no h | skip
  exact ⟨_, congrArg (Value.int · _) (of_decide_eq_true h)⟩
 | str s =>
  cases v <;> first | exact no h | skip
  have := of_decide_eq_true h; subst this
  exact ⟨_, rfl⟩
 | obj a =>
  cases v <;> first | exact no h | skip
  exact congrArg Value.ref (Nat.eq_of_beq_eq_true h).symm
 | typ t =>
  cases v <;> first | exact no h | skip
  exact congrArg Value.type (eq_of_beq h)
 | bi f =>
  cases v <;> first | exact no h | skip
  exact congrArg Value.builtin (eq_of_beq h)
 | ref => exact no h
noncomputable def isVs : List AV → List Value → Bool
 | [], l => l.isEmpty
 | a :: as, l => (match l with | v :: vs => isV a v && isVs as vs | [] => false)
theorem isVs_ok {a : List AV} : ∀ {v : List Value}, isVs a v = true → VRs 0 (fun _ => 0) a v := by
 induction a with
 | nil => intro v h; rw [List.isEmpty_iff.mp h]; trivial
 | cons a as ih => intro v h; cases v with
  | nil => exact no h
  | cons v vs => obtain ⟨h1, h2⟩ := and2 h; exact ⟨isV_ok h1, ih h2⟩
theorem lk_mem {α : Type} {l : List (Nat × α)} {x : Nat} {v : α} (e : lk l x = some v) : (x, v) ∈ l := by
 induction l with
 | nil => cases e
 | cons p l ih =>
  obtain ⟨k, w⟩ := p
  rw [lk_cons] at e
  by_cases q : k = x
  ·rw [if_pos q] at e; cases e; subst q; exact .head _
  ·rw [if_neg q] at e; exact .tail _ (ih e)
theorem all_ok {α : Type} {p : α → Bool} {l : List α} (h : l.all p = true) {x : α} (m : x ∈ l) : p x = true := List.all_eq_true.mp h x m
noncomputable def glbOk (K : Frag) (p : Nat × AV) : Bool := match nsIn K mainGlobals (nmS p.1) with
 | some (some val) => isV p.2 val
 | some none => (match bootBuiltins (nmS p.1) with
  | some val => isV p.2 val && !(nmS p.1 == ("__name__" : Str))
  | none => false)
 | none => false
theorem glbOk_ok {K : Frag} {x : Nat} {v : AV} (h : glbOk K (x, v) = true) : ∃ val, VR 0 (fun _ => 0) v val ∧ (nsIn K mainGlobals (nmS x) = some (some val) ∨ (nsIn K mainGlobals (nmS x) = some none ∧ bootBuiltins (nmS x) = some val ∧ nmS x ≠ "__name__")) := by
 unfold glbOk at h
 cases q : nsIn K mainGlobals (nmS x) with
 | none => rw [q] at h; exact no h
 | some o => cases o with
  | some val => rw [q] at h; exact ⟨val, isV_ok h, .inl rfl⟩
  | none =>
   rw [q] at h
   cases q' : bootBuiltins (nmS x) with
   | none => rw [q'] at h; exact no h
   | some val =>
    rw [q'] at h
    obtain ⟨h1, h2⟩ := and2 h
    exact ⟨val, isV_ok h1, .inr ⟨rfl, rfl, fun z => by have := not_t h2; rw [z] at this; cases this⟩⟩
noncomputable def isBi (r : Option (Option Value)) (id : String) : Bool := match r with
 | some (some (.builtin x)) => x == id
 | _ => false
theorem isBi_ok {r : Option (Option Value)} {id : String} (h : isBi r id = true) : r = some (some (.builtin id)) := by
 cases r with
 | none => exact no h
 | some r => cases r with
  | none => exact no h
  | some v => cases v <;> first | exact no h | exact congrArg (fun x => some (some (Value.builtin x))) (eq_of_beq h)
noncomputable def isNo (r : Option (Option Value)) : Bool := match r with
 | some none => true
 | _ => false
theorem isNo_ok {r : Option (Option Value)} (h : isNo r = true) : r = some none := by
 cases r with
 | none => exact no h
 | some r => cases r with
  | none => rfl
  | some v => exact no h
noncomputable def isRf (r : Option (Option Value)) (f : Nat) : Bool := match r with
 | some (some (.ref x)) => Nat.beq x f
 | _ => false
theorem isRf_ok {r : Option (Option Value)} {f : Nat} (h : isRf r f = true) : r = some (some (.ref f)) := by
 cases r with
 | none => exact no h
 | some r => cases r with
  | none => exact no h
  | some v => cases v <;> first | exact no h | exact congrArg (fun x => some (some (Value.ref x))) (Nat.eq_of_beq_eq_true h)
noncomputable def methOk (K : Frag) (C : Nat) (flds : List Nat) (p : Nat × Nat) : Bool := isRf (findIn K (.ref C) (nmS p.1)) p.2 && ((typeIn K (.ref p.2) == some (.type "function")) && (keepIn K (.ref p.2) && !flds.contains p.1))
noncomputable def hasD (o : Option ClassData) : Bool := match o with
 | some cd => cd.hasDict
 | none => false
noncomputable def clsOk (K : Frag) (C : Nat) (ci : CI) : Bool :=
 isBi (findIn K (.ref C) "__getattribute__") "object.__getattribute__" && (isNo (findIn K (.ref C) "__getattr__") && (isBi (findIn K (.ref C) "__setattr__") "object.__setattr__" && (plainOver K C && (makesIn K C && (keepIn K (.ref C) &&
  (hasD (clsIn K C) && (ci.flds.all (fun a => isNo (findIn K (.ref C) (nmS a))) && ci.meths.all (methOk K C ci.flds))))))))
theorem clsOk_ok {K : Frag} {C : Nat} {ci : CI} (h : clsOk K C ci = true) : ClsOk K C ci := by
 obtain ⟨h1, h⟩ := and2 h
 obtain ⟨h2, h⟩ := and2 h
 obtain ⟨h3, h⟩ := and2 h
 obtain ⟨h4, h⟩ := and2 h
 obtain ⟨h5, h⟩ := and2 h
 obtain ⟨h6, h⟩ := and2 h
 obtain ⟨h7, h⟩ := and2 h
 obtain ⟨h8, h9⟩ := and2 h
 refine ⟨isBi_ok h1, isNo_ok h2, isBi_ok h3, h4, h5, h6, ?_, fun a ha => isNo_ok (all_ok h8 (List.contains_iff_mem.mp ha)), fun m f hm => ?_⟩
 ·cases q : clsIn K C with
  | none => rw [q] at h7; exact no h7
  | some cd => rw [q] at h7; exact ⟨cd, rfl, h7⟩
 ·obtain ⟨g1, g⟩ := and2 (all_ok h9 (lk_mem hm))
  obtain ⟨g2, g⟩ := and2 g
  obtain ⟨g3, g4⟩ := and2 g
  exact ⟨isRf_ok g1, eq_of_beq g2, g3, not_t g4⟩
noncomputable def dflOf (K : Frag) (v : Value) : Option (List Value) := match v with
 | .none => some []
 | .ref t => (match K.lookup t with
  | some ⟨_, _, .seq xs _, _⟩ => some xs.toList
  | _ => none)
 | _ => none
theorem dflOf_ok {K : Frag} {v : Value} {dv : List Value} (h : dflOf K v = some dv) (S : Setting) : ∃ o, peek K S (seqItems? v) = some o ∧ (o.getD #[]).toList = dv := by
 cases v with
 | none => cases h; exact ⟨none, rfl, rfl⟩
 | ref t =>
  have h : (match K.lookup t with | some ⟨_, _, .seq xs _, _⟩ => some xs.toList | _ => none) = some dv := h
  cases q : K.lookup t with
  | none => rw [q] at h; cases h
  | some o =>
   rw [q] at h
   obtain ⟨c, d, data, sl⟩ := o
   cases data <;> first | cases h; done | skip
   rename_i xs k
   cases h
   refine ⟨some xs, ?_, rfl⟩
   refine (peek_bind (m := load t) (a := ⟨c, d, .seq xs k, sl⟩) ?_).trans rfl
   unfold load
   rw [peek, q]
   rfl
 | _ => cases h
noncomputable def nodupB : List Nat → Bool
 | [] => true
 | x :: l => !l.contains x && nodupB l
theorem nodupB_ok {l : List Nat} (h : nodupB l = true) : l.Nodup := by
 induction l with
 | nil => exact .nil
 | cons x l ih =>
  obtain ⟨h1, h2⟩ := and2 h
  exact List.nodup_cons.mpr ⟨fun z => (by rw [List.contains_iff_mem.mpr z] at h1; cases h1), ih h2⟩
theorem mine_ok {k : Option NameKind} (h : mine? k = true) : k = some .local ∨ k = some .cell := by
 cases k with
 | none => exact no h
 | some k => cases k <;> first | exact no h | exact .inl rfl | exact .inr rfl
noncomputable def fdOk (K : Frag) (fi : FI) (fd : FuncData) : Bool := match fd.body with
 | .stmts body => (match dflOf K fd.defaults with
  | some dv => fd.closure.isEmpty && (codeIn K fd.code fd.qualname && (decide (fd.scope.kind = .function) && (!fd.scope.isCoroutine && (!fd.scope.isGenerator && (Nat.beq fd.globals mainGlobals && (Nat.beq fd.builtins builtinsNs &&
   (chkSs fi.body (fun x => fd.scope.names.lookup x) body && (isVs fi.dfl dv && (nodupB fi.params && (fi.params.all (fun x => mine? (fd.scope.names.lookup (nmS x))) &&
    (Nat.ble fi.dfl.length fi.params.length && (fd.params.posonlyargs.isEmpty && (fd.params.vararg.isNone && (fd.params.kwonlyargs.isEmpty && (fd.params.kwarg.isNone && namesEq fi.params (fd.params.args.map (·.arg)))))))))))))))))
  | none => false)
 | _ => false
noncomputable def fnOk (K : Frag) (a : Nat) (fi : FI) : Bool := match K.lookup a with
 | some ⟨_, _, .func fd, _⟩ => keepIn K (.ref a) && fdOk K fi fd
 | _ => false
theorem fdOk_ok {K : Frag} {fi : FI} {fd : FuncData} {a : Nat} {o : Obj} (q : K.lookup a = some o) (qd : o.data = .func fd) (h : fdOk K fi fd = true) : FnOk K a fi := by
 unfold fdOk at h
 cases e1 : fd.body <;> first | (rw [e1] at h; exact no h) | skip
 rename_i body
 rw [e1] at h
 cases e3 : dflOf K fd.defaults with
 | none => rw [e3] at h; exact no h
 | some dv =>
  rw [e3] at h
  obtain ⟨e2, h⟩ := and2 h
  obtain ⟨h1, h⟩ := and2 h
  obtain ⟨h2, h⟩ := and2 h
  obtain ⟨h3, h⟩ := and2 h
  obtain ⟨h4, h⟩ := and2 h
  obtain ⟨h5, h⟩ := and2 h
  obtain ⟨h6, h⟩ := and2 h
  obtain ⟨h7, h⟩ := and2 h
  obtain ⟨h8, h⟩ := and2 h
  obtain ⟨h9, h⟩ := and2 h
  obtain ⟨h10, h⟩ := and2 h
  obtain ⟨h12, h⟩ := and2 h
  obtain ⟨p1, h⟩ := and2 h
  obtain ⟨p2, h⟩ := and2 h
  obtain ⟨p3, h⟩ := and2 h
  obtain ⟨p4, p5⟩ := and2 h
  have lv := (isVs_ok h8).len
  refine ⟨_, fd, body, dv, q, qd, e1, h1, List.isEmpty_iff.mp e2, of_decide_eq_true h2, not_t h3, not_t h4, Nat.eq_of_beq_eq_true h5, Nat.eq_of_beq_eq_true h6, chkSs_ok _ h7, isVs_ok h8, nodupB_ok h9, fun x hx => mine_ok (all_ok h10 hx), fun vals b hb S => ?_⟩
  rw [lv] at hb
  exact bind_ok ⟨List.isEmpty_iff.mp p1, namesEq_eq p5, Option.isNone_iff_eq_none.mp p2, List.isEmpty_iff.mp p3, Option.isNone_iff_eq_none.mp p4⟩ (nodupB_ok h9) (by rw [← lv]; exact Nat.le_of_ble_eq_true h12) (fun S => dflOf_ok e3 S) hb S
theorem fnOk_ok {K : Frag} {a : Nat} {fi : FI} (h : fnOk K a fi = true) : FnOk K a fi ∧ keepIn K (.ref a) = true := by
 unfold fnOk at h
 cases q : K.lookup a with
 | none => rw [q] at h; exact no h
 | some o =>
  rw [q] at h
  obtain ⟨c, d, data, sl⟩ := o
  cases data <;> first | exact no h | skip
  obtain ⟨h1, h2⟩ := and2 h
  exact ⟨fdOk_ok q rfl h2, h1⟩
noncomputable def topOk (K : Frag) (a : Nat) (xs : List AV) : Bool := match K.lookup a with
 | some o => (o.cls == .type "tuple") && (o.dict.isNone && (o.slots.isEmpty && (match o.data with | .seq vs _ => isVs xs vs.toList | _ => false)))
 | none => false
theorem topOk_ok {K : Frag} {a : Nat} {xs : List AV} (h : topOk K a xs = true) : ∃ vs k, K.lookup a = some { cls := .type "tuple", data := .seq vs.toArray k } ∧ VRs 0 (fun _ => 0) xs vs := by
 unfold topOk at h
 cases q : K.lookup a with
 | none => rw [q] at h; exact no h
 | some o =>
  rw [q] at h
  obtain ⟨c, d, data, sl⟩ := o
  obtain ⟨h1, h2⟩ := and2 h
  obtain ⟨h2, h3⟩ := and2 h2
  obtain ⟨h3, h4⟩ := and2 h3
  have key : ∃ vs k, data = .seq vs k ∧ isVs xs vs.toList = true := by
   cases data <;> first | exact no h4 | exact ⟨_, _, rfl, h4⟩
  obtain ⟨vs, k, rfl, h5⟩ := key
  refine ⟨vs.toList, k, ?_, isVs_ok h5⟩
  rw [show c = .type "tuple" from eq_of_beq h1, show d = none from Option.isNone_iff_eq_none.mp h2, show sl = #[] by simpa using h3]
structure TabOk (K : Frag) (G : Tab) : Prop where
 glb : G.glb.all (glbOk K) = true
 cls : ∀ p ∈ G.cls, clsOk K p.1 p.2 = true
 fns : ∀ p ∈ G.fns, fnOk K p.1 p.2 = true
 top : ∀ p ∈ G.top, topOk K p.1 p.2 = true
theorem Ok.of {c : Cx} {mg mb : Str → Option Value} (X : c.K.In c.hb) (nl : c.hb.NoLimit) (hg : c.hb.Ns mainGlobals mg) (hb : c.hb.Ns builtinsNs mb) (hbb : ∀ x : Str, x ≠ "__name__" → mb x = bootBuiltins x) (sys : Live c.hb sysModules) (t : TabOk c.K c.G) : Ok c where
 k := X
 nolim := nl
 cls := fun C ci e => clsOk_ok (t.cls _ (lk_mem e))
 fns := fun a fi e => (fnOk_ok (t.fns _ (lk_mem e))).1
 keepF := fun a fi e => (fnOk_ok (t.fns _ (lk_mem e))).2
 nss := ⟨mg, mb, hg, hb, hbb⟩
 glb := fun x v e => glbOk_ok (all_ok t.glb (lk_mem e))
 top := fun a xs e => by
  obtain ⟨vs, k, h2, h3⟩ := topOk_ok (t.top _ (lk_mem e))
  exact ⟨vs, k, X _ _ h2, h3⟩
 sysm := sys
end Mine
end
section
open PySem PySem.W PyProof.Rows
namespace Mine
theorem well_ints {P : Params} {h : Heap} {ns : List Int} : ∀ {vs : List Value}, WellAll P h vs (ofPys (ns.map PyData.int)) → VRs 0 (fun _ => 0) (ns.map .int) vs := by
 induction ns with
 | nil => intro vs w; cases w; trivial
 | cons n ns ih =>
  intro vs w
  cases w with
  | cons w1 w2 =>
   cases w1
   exact ⟨⟨_, rfl⟩, ih w2⟩
noncomputable def lay0 (ns : List Int) : Hp := ⟨fun _ => some (.list (ns.map .int)), 1⟩
theorem lay0_get (ns : List Int) : (lay0 ns).get 0 = some (.list (ns.map .int)) := rfl
theorem start {c : Cx} {P : Params} {ns : List Int} {L : Addr} (w : Well P c.hb (.ref L) (ofPy (PyData.list (ns.map PyData.int)))) : HR c (fun _ => L) (fun _ => L) (lay0 ns) (lay0 ns).n c.hb := by
 cases w with
 | list h1 h2 =>
  refine ⟨fun b o e => e, fun i o e => ?_, fun i h1 h2 => absurd h1 (Nat.not_le.mpr h2), fun i j h1 h2 ne => absurd ((Nat.lt_one_iff.mp h1).trans (Nat.lt_one_iff.mp h2).symm) ne, fun i hi => ⟨⟨_, h1⟩, ⟨_, h1⟩⟩, Nat.le_refl _, fun i hi => ⟨⟨_, h1⟩, ⟨_, h1⟩⟩⟩
  have lt := lt_of_get e
  have : i = 0 := Nat.lt_one_iff.mp lt
  subst this
  cases e
  exact ⟨lt, _, 0, h1, (well_ints h2).up (Nat.zero_le _) fun i q => absurd q (Nat.not_lt_zero i)⟩
theorem law_call {c : Cx} {d a : Nat} {A : Around} {s : Shared} {P : Params} {ns : List Int} {L : Addr} {T' : Hp} {Q E : Value → Shared → Prop} (hs : s.heap = c.hb) (w : Well P c.hb (.ref L) (ofPy (PyData.list (ns.map PyData.int))))
  (he : Ca c a [.ref 0] d (lay0 ns) (.bool true) T') (ro : Room d A) (hf : A.frames = some [])
  (hq : ∀ h' t', (∀ b ob, c.hb.get? b = some ob → h'.get? b = some ob) → Q (.bool true) (Sh s h' t')) : wpAny (model c.prog c.w) A (call (.ref a) [.ref L]) Q E s := by
 refine wpAny_call (he A s (fun _ => L) (fun _ => L) _ [.ref L] ⟨⟨Nat.one_pos, rfl⟩, trivial⟩ (by rw [hs]; exact start w) ro ⟨[], hf, fun e he => nomatch he⟩ ?_)
 intro ρ' δ' h' t' val g r vr
 cases vr
 exact hq h' t' r.base
noncomputable def Upd (n : Nat) (P : Nat → AO → Prop) (T T' : Hp) : Prop := T.n ≤ T'.n ∧ ∀ r a, r < n → P r a → T.get r = some a → T'.get r = some a
theorem get_off (T : Hp) {o : AO} {r x : Nat} (ne : x ≠ r) : (hput T r o).get x = T.get x := by
 show (if x < T.n then (if x = r then some o else T.m x) else none) = if x < T.n then T.m x else none
 rw [if_neg ne]
section
variable {n m : Nat} {P Q : Nat → AO → Prop} {T T1 T2 : Hp} {o a : AO} {r x : Nat}
theorem Upd.refl : Upd n P T T := ⟨Nat.le_refl _, fun _ _ _ _ h => h⟩
theorem Upd.trans (u : Upd n P T T1) (v : Upd n P T1 T2) : Upd n P T T2 := ⟨Nat.le_trans u.1 v.1, fun r a q p h => v.2 r a q p (u.2 r a q p h)⟩
theorem Upd.new (u : Upd n P T T1) : Upd n P T (hnew T1 o) := ⟨Nat.le_succ_of_le u.1, fun r a q p h => get_old (u.2 r a q p h)⟩
theorem Upd.put (u : Upd n P T T1) (h : n ≤ r) : Upd n P T (hput T1 r o) := ⟨u.1, fun x a q p g => (get_off T1 (Nat.ne_of_lt (Nat.lt_of_lt_of_le q h))).trans (u.2 x a q p g)⟩
theorem Upd.set (u : Upd n P T T1) (h : T.get r = some o → ¬ P r o) (g : T.get r = some o) : Upd n P T (hput T1 r a) := ⟨u.1, fun x b q p k => by
 by_cases e : x = r
 ·subst e; rw [g] at k; cases k; exact absurd p (h g)
 ·exact (get_off T1 e).trans (u.2 x b q p k)⟩
theorem Upd.weak (u : Upd n P T T1) (le : m ≤ n) (h : ∀ r a, Q r a → P r a) : Upd m Q T T1 := ⟨u.1, fun r a q p g => u.2 r a (Nat.lt_of_lt_of_le q le) (h r a p) g⟩
theorem Upd.get (u : Upd T.n P T T1) (p : P r a) (g : T.get r = some a) : T1.get r = some a := u.2 r a (lt_of_get g) p g
end
noncomputable def All : Nat → AO → Prop := fun _ _ => True
section
variable (c : Cx) (d : Nat) (loc : Loc) (T : Hp)
noncomputable def EvP (e : PE) (Q : AV → Hp → Prop) : Prop := ∃ v T', Ev c e d loc T v T' ∧ Q v T'
noncomputable def EsP (l : PEs) (Q : List AV → Hp → Prop) : Prop := ∃ v T', Evs c l d loc T v T' ∧ Q v T'
noncomputable def TrP (e : PE) (Q : Bool → Hp → Prop) : Prop := ∃ t T', Tr c e d loc T t T' ∧ Q t T'
noncomputable def TsP (w : Bool) (l : PEs) (Q : Bool → Hp → Prop) : Prop := ∃ t T', Ts c w l d loc T t T' ∧ Q t T'
noncomputable def BoP (w : Bool) (l : PEs) (Q : AV → Hp → Prop) : Prop := ∃ t T', Bo c w l d loc T t T' ∧ Q t T'
noncomputable def TeP (l : PEs) (Q : Bool → Hp → Prop) : Prop := ∃ t T', Te c l d loc T t T' ∧ Q t T'
noncomputable def PvP (l : PEs) (Q : List (AV × AV) → Hp → Prop) : Prop := ∃ t T', Pv c l d loc T t T' ∧ Q t T'
noncomputable def StP (s : PS) (N : Loc → Hp → Prop) (R : AV → Hp → Prop) : Prop := (∃ l T', St c s d loc T (.nxt l) T' ∧ N l T') ∨ (∃ v T', St c s d loc T (.ret v) T' ∧ R v T')
noncomputable def ExP (b : PSs) (N : Loc → Hp → Prop) (R : AV → Hp → Prop) : Prop := (∃ l T', Ex c b d loc T (.nxt l) T' ∧ N l T') ∨ (∃ v T', Ex c b d loc T (.ret v) T' ∧ R v T')
noncomputable def LoP (xs : List Nat) (src : Nat) (ik : IK) (i : Nat) (b : PSs) (N : Loc → Hp → Prop) (R : AV → Hp → Prop) : Prop := (∃ l T', Lo c xs src ik i b d loc T (.nxt l) T' ∧ N l T') ∨ (∃ v T', Lo c xs src ik i b d loc T (.ret v) T' ∧ R v T')
noncomputable def WlP (t : PE) (b : PSs) (N : Loc → Hp → Prop) (R : AV → Hp → Prop) : Prop := (∃ l T', Wl c t b d loc T (.nxt l) T' ∧ N l T') ∨ (∃ v T', Wl c t b d loc T (.ret v) T' ∧ R v T')
noncomputable def CoP (ck : CK) (acc : Nat) (xs : List Nat) (src : Nat) (ik : IK) (i : Nat) (ifs : PEs) (Q : Hp → Prop) : Prop := ∃ T', Co c ck acc xs src ik i ifs d loc T T' ∧ Q T'
end
section
variable (c : Cx) (T : Hp)
noncomputable def CaP (a : Nat) (args : List AV) (d : Nat) (Q : AV → Hp → Prop) : Prop := ∃ v T', Ca c a args d T v T' ∧ Q v T'
noncomputable def BcP (f : AV) (args : List AV) (d : Nat) (Q : AV → Hp → Prop) : Prop := ∃ v T', Bc c f args d T v T' ∧ Q v T'
noncomputable def BmP (id : String) (o : AV) (args : List AV) (d : Nat) (Q : AV → Hp → Prop) : Prop := ∃ v T', Bm c id o args d T v T' ∧ Q v T'
noncomputable def BgP (o : AV) (m : Nat) (K : String → Prop) : Prop := ∃ id, Bg c o m id T ∧ K id
noncomputable def BiP (op : Bop) (a b : AV) (Q : AV → Hp → Prop) : Prop := ∃ v T', Bi c op a b T v T' ∧ Q v T'
noncomputable def CmP (op : Cop) (a b : AV) (Q : Bool → Prop) : Prop := ∃ t, Cm c op a b T t ∧ Q t
noncomputable def ItP (a b : AV) (Q : AV → Prop) : Prop := ∃ v, It c a b T v ∧ Q v
noncomputable def SlP (up : Bool) (a b : AV) (Q : AV → Hp → Prop) : Prop := ∃ v T', Sl c up a b T v T' ∧ Q v T'
noncomputable def AtP (v : AV) (a : Nat) (Q : AV → Prop) : Prop := ∃ r C fs ci w, v = .ref r ∧ T.get r = some (.inst C fs) ∧ lk c.G.cls C = some ci ∧ ci.flds.contains a = true ∧ lk fs a = some w ∧ Q w
noncomputable def MtP (v : AV) (m : Nat) (K : Nat → Nat → Prop) : Prop := ∃ r C fs ci f, v = .ref r ∧ T.get r = some (.inst C fs) ∧ lk c.G.cls C = some ci ∧ lk ci.meths m = some f ∧ lk fs m = none ∧ K r f
noncomputable def AsP (u : AV) (a : Nat) (v : AV) (K : Hp → Prop) : Prop := ∃ r C fs ci, u = .ref r ∧ T.get r = some (.inst C fs) ∧ lk c.G.cls C = some ci ∧ ci.flds.contains a = true ∧ fs.length < 500 ∧ 1 ≤ r ∧ K (hput T r (.inst C (pt fs a v)))
noncomputable def DpP (u k v : AV) (K : Hp → Prop) : Prop := ∃ r es ep, u = .ref r ∧ T.get r = some (.dict es ep) ∧ kOk k es = true ∧ es.length < 4000 ∧ 1 ≤ r ∧ K (hput T r (.dict (dpt k v es) (epS k es ep)))
noncomputable def TuP (u : AV) (xs : List Nat) (loc : Loc) (K : Loc → Prop) : Prop := ∃ r vs loc', u = .ref r ∧ (T.get r = some (.tuple vs) ∨ T.get r = some (.list vs)) ∧ setAll xs vs loc = some loc' ∧ K loc'
noncomputable def TwP (u : AV) (xs : List Nat) (loc : Loc) (K : Loc → Prop) : Prop := ∃ r vs loc', u = .ref r ∧ T.get r = some (.tuple vs) ∧ setAll xs.reverse vs.reverse loc = some loc' ∧ K loc'
noncomputable def IkP (u : AV) (K : Nat → IK → Prop) : Prop := ∃ r ik, u = .ref r ∧ IkOf T r ik ∧ K r ik
noncomputable def DiP (l : PEs) (n : Nat) (ps : List (AV × AV)) (K : Hp → Prop) : Prop := T.get n = some (.dict [] 0) ∧ Nat.ble 1 n = true ∧ lenE l = 2 * ps.length ∧ ps ≠ [] ∧ filOk ps [] = true ∧ K (hput T n (fil ps [] 0))
noncomputable def ShP {α : Type} (vs : List α) (K : Prop) : Prop := vs.length < 1000 ∧ K
noncomputable def BlP (v : AV) (K : Bool → Prop) : Prop := ∃ t, v = .bool t ∧ K t
noncomputable def InP (v : AV) (K : Int → Prop) : Prop := ∃ t, v = .int t ∧ K t
noncomputable def YeP (t w : Bool) (K : Prop) : Prop := t = w ∧ K
noncomputable def NoP (v : AV) (K : Prop) : Prop := v = .none ∧ K
end
section
variable {c : Cx} {d : Nat} {loc loc' : Loc} {T T' : Hp} {Q : AV → Hp → Prop} {QB : Bool → Hp → Prop} {v a b : AV} {t w : Bool} {K : Prop} {KV : AV → Prop} {KB : Bool → Prop} {KH : Hp → Prop}
theorem k_ca {f : Nat} {args : List AV} (h : Ca c f args d T v T') (q : Q v T') : CaP c T f args d Q := ⟨_, _, h, q⟩
theorem k_bc {f : AV} {args : List AV} (h : Bc c f args d T v T') (q : Q v T') : BcP c T f args d Q := ⟨_, _, h, q⟩
theorem k_bm {id : String} {o : AV} {args : List AV} (h : Bm c id o args d T v T') (q : Q v T') : BmP c T id o args d Q := ⟨_, _, h, q⟩
theorem k_bg {id : String} {o : AV} {m : Nat} {KS : String → Prop} (h : Bg c o m id T) (q : KS id) : BgP c T o m KS := ⟨_, h, q⟩
theorem k_bi {op : Bop} (h : Bi c op a b T v T') (q : Q v T') : BiP c T op a b Q := ⟨_, _, h, q⟩
theorem k_cm {op : Cop} (t : Bool) (h : Cm c op a b T t) (q : KB t) : CmP c T op a b KB := ⟨_, h, q⟩
theorem k_it (h : It c a b T v) (q : KV v) : ItP c T a b KV := ⟨_, h, q⟩
theorem k_sl {up : Bool} (h : Sl c up a b T v T') (q : Q v T') : SlP c T up a b Q := ⟨_, _, h, q⟩
theorem k_dp {r ep : Nat} {k : AV} {es : List (AV × AV)} (h : T.get r = some (.dict es ep)) (h2 : kOk k es = true) (h3 : es.length < 4000) (h4 : 1 ≤ r) (q : KH (hput T r (.dict (dpt k v es) (epS k es ep)))) : DpP T (.ref r) k v KH := ⟨_, _, _, rfl, h, h2, h3, h4, q⟩
theorem k_tu {r : Nat} {vs : List AV} {xs : List Nat} {KL : Loc → Prop} (h : T.get r = some (.tuple vs) ∨ T.get r = some (.list vs)) (h2 : setAll xs vs loc = some loc') (q : KL loc') : TuP T (.ref r) xs loc KL := ⟨_, _, _, rfl, h, h2, q⟩
theorem k_tw {r : Nat} {vs : List AV} {xs : List Nat} {KL : Loc → Prop} (h : T.get r = some (.tuple vs)) (h2 : setAll xs.reverse vs.reverse loc = some loc') (q : KL loc') : TwP T (.ref r) xs loc KL := ⟨_, _, _, rfl, h, h2, q⟩
theorem k_ik {r : Nat} {ik : IK} {KI : Nat → IK → Prop} (h : IkOf T r ik) (q : KI r ik) : IkP T (.ref r) KI := ⟨_, _, rfl, h, q⟩
theorem k_di {l : PEs} {n : Nat} {ps : List (AV × AV)} (h1 : T.get n = some (.dict [] 0)) (h2 : Nat.ble 1 n = true) (h3 : lenE l = 2 * ps.length) (h4 : ps ≠ []) (h5 : filOk ps [] = true) (q : KH (hput T n (fil ps [] 0))) : DiP T l n ps KH := ⟨h1, h2, h3, h4, h5, q⟩
theorem k_sh {α : Type} {vs : List α} (h : vs.length < 1000) (q : K) : ShP vs K := ⟨h, q⟩
theorem k_bl (q : KB t) : BlP (.bool t) KB := ⟨_, rfl, q⟩
theorem k_in {i : Int} {KZ : Int → Prop} (q : KZ i) : InP (.int i) KZ := ⟨_, rfl, q⟩
theorem k_ye (q : K) : YeP t t K := ⟨rfl, q⟩
theorem k_no (q : K) : NoP .none K := ⟨rfl, q⟩
end
section
variable {c : Cx} {d : Nat} {loc loc' : Loc} {T T' : Hp} {Q : AV → Hp → Prop} {QB : Bool → Hp → Prop} {QL : List AV → Hp → Prop} {N : Loc → Hp → Prop} {R : AV → Hp → Prop} {e e2 o i k v it tst : PE} {l ifs : PEs} {b b2 hb : PSs} {s : PS} {x m cl nm : Nat} {xs : List Nat} {w up : Bool} {u : AV}
theorem E_none (q : Q .none T) : EvP c d loc T .none Q := ⟨_, _, R_none, q⟩
theorem E_bool {z : Bool} (q : Q (.bool z) T) : EvP c d loc T (.bool z) Q := ⟨_, _, R_bool, q⟩
theorem E_int {z : Int} (q : Q (.int z) T) : EvP c d loc T (.int z) Q := ⟨_, _, R_int, q⟩
theorem E_str {z : List Nat} (q : Q (.str z) T) : EvP c d loc T (.str z) Q := ⟨_, _, R_str, q⟩
theorem E_loc (h : lk loc x = some u) (q : Q u T) : EvP c d loc T (.loc x) Q := ⟨_, _, R_loc h, q⟩
theorem E_glb (ok : Ok c) (h : lk c.G.glb x = some u) (q : Q u T) : EvP c d loc T (.glb x) Q := ⟨_, _, R_glb ok h, q⟩
theorem E_attr (ok : Ok c) (h : EvP c d loc T e fun v T1 => AtP c T1 v x fun w => Q w T1) : EvP c d loc T (.attr e x) Q := by
 obtain ⟨_, _, h1, r, C, fs, ci, w, rfl, h2, h3, h4, h5, q⟩ := h
 exact ⟨_, _, R_attr ok h1 h2 h3 h4 h5, q⟩
theorem Es_nil (q : QL [] T) : EsP c d loc T .nil QL := ⟨_, _, Rs_nil, q⟩
theorem Es_cons (h : EvP c d loc T e fun v T1 => EsP c d loc T1 l fun vs T2 => QL (v :: vs) T2) : EsP c d loc T (.cons e l) QL := by
 obtain ⟨_, _, h1, _, _, h2, q⟩ := h
 exact ⟨_, _, Rs_cons h1 h2, q⟩
theorem E_list (h : EsP c d loc T l fun vs T1 => ShP vs (Q (.ref T1.n) (hnew T1 (.list vs)))) : EvP c d loc T (.list l) Q := by
 obtain ⟨_, _, h1, h2, q⟩ := h
 exact ⟨_, _, R_list h1 h2, q⟩
theorem E_tuple (h : EsP c d loc T l fun vs T1 => ShP vs (Q (.ref T1.n) (hnew T1 (.tuple vs)))) : EvP c d loc T (.tuple l) Q := by
 obtain ⟨_, _, h1, h2, q⟩ := h
 exact ⟨_, _, R_tuple h1 h2, q⟩
theorem E_callF (ok : Ok c) {f : Nat} {fi : FI} (hx : lk c.G.glb x = some (.obj f)) (hf : lk c.G.fns f = some fi) (h : EsP c d loc T l fun vs T1 => CaP c T1 f vs d Q) : EvP c d loc T (.call (.glb x) l) Q := by
 obtain ⟨_, _, h1, _, _, h2, q⟩ := h
 exact ⟨_, _, R_callF ok hx hf h1 h2, q⟩
theorem E_callB (ok : Ok c) {f : AV} (hx : lk c.G.glb x = some f) (hf : (∃ b, f = .bi b) ∨ ∃ t, f = .typ t) (h : EsP c d loc T l fun vs T1 => BcP c T1 f vs d Q) : EvP c d loc T (.call (.glb x) l) Q := by
 obtain ⟨_, _, h1, _, _, h2, q⟩ := h
 exact ⟨_, _, R_callB ok hx hf h1 h2, q⟩
theorem E_new (ok : Ok c) {a fi : Nat} {ci : CI} (hx : lk c.G.glb x = some (.obj a)) (hc : lk c.G.cls a = some ci) (hi : lk ci.meths 6944679725401530464 = some fi) (h : EsP c (d + 1) loc T l fun vs T1 => CaP c (hnew T1 (.inst a [])) fi (.ref T1.n :: vs) d fun v T2 => NoP v (Q (.ref T1.n) T2)) : EvP c (d + 1) loc T (.call (.glb x) l) Q := by
 obtain ⟨_, _, h1, _, _, h2, rfl, q⟩ := h
 exact ⟨_, _, R_new ok hx hc hi h1 h2, q⟩
theorem E_meth (ok : Ok c) (h : EvP c d loc T o fun v T1 => MtP c T1 v m fun r f => EsP c d loc T1 l fun vs T2 => CaP c T2 f (.ref r :: vs) d Q) : EvP c d loc T (.meth o m l) Q := by
 obtain ⟨_, _, h1, r, C, fs, ci, f, rfl, h2, h3, h4, h5, _, _, h6, _, _, h7, q⟩ := h
 exact ⟨_, _, R_meth ok h1 h2 h3 h4 h5 h6 h7, q⟩
theorem E_methB (h : EvP c d loc T o fun v T1 => BgP c T1 v m fun id => EsP c d loc T1 l fun vs T2 => BmP c T2 id v vs d Q) : EvP c d loc T (.meth o m l) Q := by
 obtain ⟨_, _, h1, id, h2, _, _, h6, _, _, h7, q⟩ := h
 exact ⟨_, _, R_methB h1 h2 h6 h7, q⟩
theorem E_bin {op : Bop} (h : EvP c d loc T e fun a T1 => EvP c d loc T1 e2 fun b T2 => BiP c T2 op a b Q) : EvP c d loc T (.bin op e e2) Q := by
 obtain ⟨_, _, h1, _, _, h2, _, _, h3, q⟩ := h
 exact ⟨_, _, R_bin h1 h2 h3, q⟩
theorem E_cmp {op : Cop} (h : EvP c d loc T e fun a T1 => EvP c d loc T1 e2 fun b T2 => CmP c T2 op a b fun t => Q (.bool t) T2) : EvP c d loc T (.cmp op e e2) Q := by
 obtain ⟨_, _, h1, _, _, h2, _, h3, q⟩ := h
 exact ⟨_, _, R_cmp h1 h2 h3, q⟩
theorem T_cmpP {op : Cop} (h : EvP c d loc T e fun a T1 => EvP c d loc T1 e2 fun b T2 => CmP c T2 op a b fun t => QB t T2) : TrP c d loc T (.cmp op e e2) QB := by
 obtain ⟨_, _, h1, _, _, h2, _, h3, q⟩ := h
 exact ⟨_, _, T_cmp h1 h2 h3, q⟩
theorem T_notP (h : TrP c d loc T e fun t T1 => QB (!t) T1) : TrP c d loc T (.not e) QB := by
 obtain ⟨_, _, h1, q⟩ := h
 exact ⟨_, _, T_not h1, q⟩
theorem E_not (h : EvP c d loc T e fun v T1 => BlP v fun t => Q (.bool (!t)) T1) : EvP c d loc T (.not e) Q := by
 obtain ⟨_, _, h1, _, rfl, q⟩ := h
 exact ⟨_, _, R_not h1, q⟩
theorem E_neg (h : EvP c d loc T e fun v T1 => InP v fun i => Q (.int (-i)) T1) : EvP c d loc T (.neg e) Q := by
 obtain ⟨_, _, h1, _, rfl, q⟩ := h
 exact ⟨_, _, R_neg h1, q⟩
theorem T_plainP (hp : plainT e = true) (h : EvP c d loc T e fun v T1 => BlP v fun t => QB t T1) : TrP c d loc T e QB := by
 obtain ⟨_, _, h1, _, rfl, q⟩ := h
 exact ⟨_, _, T_plain hp h1, q⟩
theorem T_andP (h : TsP c d loc T true l QB) : TrP c d loc T (.and l) QB := by
 obtain ⟨_, _, h1, q⟩ := h
 exact ⟨_, _, T_and h1, q⟩
theorem T_orP (h : TsP c d loc T false l QB) : TrP c d loc T (.or l) QB := by
 obtain ⟨_, _, h1, q⟩ := h
 exact ⟨_, _, T_or h1, q⟩
theorem Ts_nilP (q : QB w T) : TsP c d loc T w .nil QB := ⟨_, _, Ts_nil, q⟩
theorem Ts_goP (h : TrP c d loc T e fun t T1 => YeP t w (TsP c d loc T1 w l QB)) : TsP c d loc T w (.cons e l) QB := by
 obtain ⟨_, _, h1, rfl, _, _, h2, q⟩ := h
 exact ⟨_, _, Ts_go h1 h2, q⟩
theorem Ts_stopP (h : TrP c d loc T e fun t T1 => YeP t (!w) (QB (!w) T1)) : TsP c d loc T w (.cons e l) QB := by
 obtain ⟨_, _, h1, rfl, q⟩ := h
 exact ⟨_, _, Ts_stop h1, q⟩
theorem E_and (h : BoP c d loc T true l Q) : EvP c d loc T (.and l) Q := by
 obtain ⟨_, _, h1, q⟩ := h
 exact ⟨_, _, R_and h1, q⟩
theorem Bo_stopP (h : EvP c d loc T e fun v T1 => BlP v fun t => YeP t (!w) (Q (.bool (!w)) T1)) : BoP c d loc T w (.cons e (.cons e2 l)) Q := by
 obtain ⟨_, _, h1, _, rfl, rfl, q⟩ := h
 exact ⟨_, _, Bo_stop h1, q⟩
theorem E_sub (h : EvP c d loc T o fun a T1 => EvP c d loc T1 i fun b T2 => ItP c T2 a b fun v => Q v T2) : EvP c d loc T (.sub o i) Q := by
 obtain ⟨_, _, h1, _, _, h2, _, h3, q⟩ := h
 exact ⟨_, _, R_sub h1 h2 h3, q⟩
theorem E_slice (h : EvP c d loc T o fun a T1 => EvP c d loc T1 i fun b T2 => SlP c T2 up a b Q) : EvP c d loc T (.slice o up i) Q := by
 obtain ⟨_, _, h1, _, _, h2, _, _, h3, q⟩ := h
 exact ⟨_, _, R_slice h1 h2 h3, q⟩
theorem E_dict0 (ok : Ok c) (q : Q (.ref T.n) (hnew T (.dict [] 0))) : EvP c d loc T (.dict .nil) Q := ⟨_, _, R_dict0 ok, q⟩
theorem P_nilP {QP : List (AV × AV) → Hp → Prop} (q : QP [] T) : PvP c d loc T .nil QP := ⟨_, _, P_nil, q⟩
theorem P_consP {QP : List (AV × AV) → Hp → Prop} (h : EvP c d loc T e fun a T1 => EvP c d loc T1 e2 fun b T2 => PvP c d loc T2 l fun ps T3 => QP ((a, b) :: ps) T3) : PvP c d loc T (.cons e (.cons e2 l)) QP := by
 obtain ⟨_, _, h1, _, _, h2, _, _, h3, q⟩ := h
 exact ⟨_, _, P_cons h1 h2 h3, q⟩
theorem E_dict (ok : Ok c) (h : PvP c d loc (hnew T (.dict [] 0)) l fun ps T1 => DiP T1 l T.n ps fun T2 => Q (.ref T.n) T2) : EvP c d loc T (.dict l) Q := by
 obtain ⟨_, _, h1, h2, h3, h4, h5, h6, q⟩ := h
 exact ⟨_, _, R_dict ok h1 h2 h3 h4 h5 h6, q⟩
theorem E_listc (h : EvP c d loc T it fun u T1 => IkP T1 u fun r ik => CoP c d (rm (k_dot0 :: xs) loc) (hnew T1 (.list [])) (.list v) T1.n xs r ik 0 ifs fun T2 => Q (.ref T1.n) T2) : EvP c d loc T (.listc v xs it ifs) Q := by
 obtain ⟨_, _, h1, _, _, rfl, h2, _, h3, q⟩ := h
 exact ⟨_, _, R_listc h1 h2 h3, q⟩
theorem E_dictc (ok : Ok c) (h : EvP c d loc T it fun u T1 => IkP T1 u fun r ik => CoP c d (rm (k_dot0 :: [x]) loc) (hnew T1 (.dict [] 0)) (.dict k v) T1.n [x] r ik 0 ifs fun T2 => Q (.ref T1.n) T2) : EvP c d loc T (.dictc k v x it ifs) Q := by
 obtain ⟨_, _, h1, _, _, rfl, h2, _, h3, q⟩ := h
 exact ⟨_, _, R_dictc ok h1 h2 h3, q⟩
theorem X_nilP (q : N loc T) : ExP c d loc T .nil N R := .inl ⟨_, _, X_nil, q⟩
theorem X_consP (h : StP c d loc T s (fun l T1 => ExP c d l T1 b N R) R) : ExP c d loc T (.cons s b) N R := by
 obtain ⟨_, _, h1, ⟨_, _, h2, q⟩ | ⟨_, _, h2, q⟩⟩ | ⟨_, _, h1, q⟩ := h
 ·exact .inl ⟨_, _, X_cons h1 h2, q⟩
 ·exact .inr ⟨_, _, X_cons h1 h2, q⟩
 ·exact .inr ⟨_, _, X_ret h1, q⟩
theorem S_expr (h : EvP c d loc T e fun _ T1 => N loc T1) : StP c d loc T (.expr e) N R := by
 obtain ⟨_, _, h1, q⟩ := h
 exact .inl ⟨_, _, R_expr h1, q⟩
theorem S_ret0 (q : R .none T) : StP c d loc T .ret0 N R := .inr ⟨_, _, R_ret0, q⟩
theorem S_ret (h : EvP c d loc T e R) : StP c d loc T (.ret e) N R := by
 obtain ⟨_, _, h1, q⟩ := h
 exact .inr ⟨_, _, R_ret h1, q⟩
theorem S_asg (h : EvP c d loc T e fun v T1 => N (pt loc x v) T1) : StP c d loc T (.asg x e) N R := by
 obtain ⟨_, _, h1, q⟩ := h
 exact .inl ⟨_, _, R_asg h1, q⟩
theorem S_if (h : TrP c d loc T tst fun w T1 => ExP c d loc T1 (cond w b b2) N R) : StP c d loc T (.ite tst b b2) N R := by
 obtain ⟨_, _, h1, ⟨_, _, h2, q⟩ | ⟨_, _, h2, q⟩⟩ := h
 ·exact .inl ⟨_, _, R_if _ h1 h2, q⟩
 ·exact .inr ⟨_, _, R_if _ h1 h2, q⟩
theorem S_asgA (ok : Ok c) (h : EvP c d loc T e fun v T1 => EvP c d loc T1 o fun u T2 => AsP c T2 u x v fun T3 => N loc T3) : StP c d loc T (.asgA o x e) N R := by
 obtain ⟨_, _, h1, _, _, h2, _, _, _, _, rfl, h3, h4, h5, h6, h7, q⟩ := h
 exact .inl ⟨_, _, R_asgA ok h1 h2 h3 h4 h5 h6 h7, q⟩
theorem S_asgS (h : EvP c d loc T e fun v T1 => EvP c d loc T1 o fun u T2 => EvP c d loc T2 i fun k T3 => DpP T3 u k v fun T4 => N loc T4) : StP c d loc T (.asgS o i e) N R := by
 obtain ⟨_, _, h1, _, _, h2, _, _, h3, _, _, _, rfl, h4, h5, h6, h7, q⟩ := h
 exact .inl ⟨_, _, R_asgS h1 h2 h3 h4 h5 h6 h7, q⟩
theorem S_asgT (h : EvP c d loc T e fun u T1 => TuP T1 u xs loc fun l => N l T1) : StP c d loc T (.asgT xs e) N R := by
 obtain ⟨_, _, h1, _, _, _, rfl, h2, h3, q⟩ := h
 exact .inl ⟨_, _, R_asgT h1 h2 h3, q⟩
theorem S_asgW (h : EvP c d loc T e fun u T1 => TwP T1 u xs loc fun l => N l T1) : StP c d loc T (.asgW xs e) N R := by
 obtain ⟨_, _, h1, _, _, _, rfl, h2, h3, q⟩ := h
 exact .inl ⟨_, _, R_asgW h1 h2 h3, q⟩
theorem S_for (h : EvP c d loc T it fun u T1 => IkP T1 u fun r ik => LoP c d loc T1 xs r ik 0 b N R) : StP c d loc T (.for1 xs it b) N R := by
 obtain ⟨_, _, h1, _, _, rfl, h2, ⟨_, _, h3, q⟩ | ⟨_, _, h3, q⟩⟩ := h
 ·exact .inl ⟨_, _, R_for h1 h2 h3, q⟩
 ·exact .inr ⟨_, _, R_for h1 h2 h3, q⟩
theorem S_whl (h : WlP c d loc T tst b N R) : StP c d loc T (.whl tst b) N R := by
 obtain ⟨_, _, h3, q⟩ | ⟨_, _, h3, q⟩ := h
 ·exact .inl ⟨_, _, R_whl h3, q⟩
 ·exact .inr ⟨_, _, R_whl h3, q⟩
theorem S_try (h : ExP c d loc T b N R) : StP c d loc T (.try b cl nm hb) N R := by
 obtain ⟨_, _, h3, q⟩ | ⟨_, _, h3, q⟩ := h
 ·exact .inl ⟨_, _, R_try h3, q⟩
 ·exact .inr ⟨_, _, R_try h3, q⟩
variable {src j acc : Nat} {ik : IK} {ck : CK} {y : AV} {KH : Hp → Prop}
theorem L_endP (e : Turn T src j none ik) (q : N loc T) : LoP c d loc T xs src ik j b N R := .inl ⟨_, _, L_end e, q⟩
theorem L_nextP (e : Turn T src j (some y) ik) (eb : BindTo T xs y loc loc') (h : ExP c d loc' T b (fun l T1 => LoP c d l T1 xs src ik (j + 1) b N R) R) : LoP c d loc T xs src ik j b N R := by
 obtain ⟨_, _, h1, ⟨_, _, h2, q⟩ | ⟨_, _, h2, q⟩⟩ | ⟨_, _, h1, q⟩ := h
 ·exact .inl ⟨_, _, L_next e eb h1 h2, q⟩
 ·exact .inr ⟨_, _, L_next e eb h1 h2, q⟩
 ·exact .inr ⟨_, _, L_ret e eb h1, q⟩
theorem W_endP (h : TrP c d loc T tst fun t T1 => YeP t false (N loc T1)) : WlP c d loc T tst b N R := by
 obtain ⟨_, _, h1, rfl, q⟩ := h
 exact .inl ⟨_, _, W_end h1, q⟩
theorem W_nextP (h : TrP c d loc T tst fun t T1 => YeP t true (ExP c d loc T1 b (fun l T2 => WlP c d l T2 tst b N R) R)) : WlP c d loc T tst b N R := by
 obtain ⟨_, _, h0, rfl, ⟨_, _, h1, ⟨_, _, h2, q⟩ | ⟨_, _, h2, q⟩⟩ | ⟨_, _, h1, q⟩⟩ := h
 ·exact .inl ⟨_, _, W_next h0 h1 h2, q⟩
 ·exact .inr ⟨_, _, W_next h0 h1 h2, q⟩
 ·exact .inr ⟨_, _, W_ret h0 h1, q⟩
theorem Te_nilP (q : QB true T) : TeP c d loc T .nil QB := ⟨_, _, Te_nil, q⟩
theorem Te_goP (h : TrP c d loc T e fun t T1 => YeP t true (TeP c d loc T1 l QB)) : TeP c d loc T (.cons e l) QB := by
 obtain ⟨_, _, h1, rfl, _, _, h2, q⟩ := h
 exact ⟨_, _, Te_go h1 h2, q⟩
theorem Te_stopP (h : TrP c d loc T e fun t T1 => YeP t false (QB false T1)) : TeP c d loc T (.cons e l) QB := by
 obtain ⟨_, _, h1, rfl, q⟩ := h
 exact ⟨_, _, Te_stop h1, q⟩
theorem Co_endP (e : Turn T src j none ik) (q : KH T) : CoP c d loc T ck acc xs src ik j ifs KH := ⟨_, Co_end e, q⟩
theorem Co_skipP (e : Turn T src j (some y) ik) (eb : BindTo T xs y loc loc') (h : TeP c d loc' T ifs fun t T1 => YeP t false (CoP c d loc' T1 ck acc xs src ik (j + 1) ifs KH)) : CoP c d loc T ck acc xs src ik j ifs KH := by
 obtain ⟨_, _, h1, rfl, _, h2, q⟩ := h
 exact ⟨_, Co_skip e eb h1 h2, q⟩
noncomputable def ApP (T : Hp) (acc : Nat) (y : AV) (K : Hp → Prop) : Prop := ∃ ys, T.get acc = some (.list ys) ∧ ys.length < 4000 ∧ 1 ≤ acc ∧ K (hput T acc (.list (ys ++ [y])))
theorem k_ap {ys : List AV} (h : T.get acc = some (.list ys)) (h2 : ys.length < 4000) (h3 : 1 ≤ acc) (q : KH (hput T acc (.list (ys ++ [y])))) : ApP T acc y KH := ⟨_, h, h2, h3, q⟩
theorem Co_listP (e : Turn T src j (some y) ik) (eb : BindTo T xs y loc loc') (h : TeP c d loc' T ifs fun t T1 => YeP t true (EvP c d loc' T1 v fun w T2 => ApP T2 acc w fun T3 => CoP c d loc' T3 (.list v) acc xs src ik (j + 1) ifs KH)) : CoP c d loc T (.list v) acc xs src ik j ifs KH := by
 obtain ⟨_, _, h1, rfl, _, _, h2, _, h3, h4, h5, _, h6, q⟩ := h
 exact ⟨_, Co_list e eb h1 h2 h3 h4 h5 h6, q⟩
theorem Co_dictP (e : Turn T src j (some y) ik) (eb : BindTo T xs y loc loc') (h : TeP c d loc' T ifs fun t T1 => YeP t true (EvP c d loc' T1 k fun kx T2 => EvP c d loc' T2 v fun w T3 => DpP T3 (.ref acc) kx w fun T4 => CoP c d loc' T4 (.dict k v) acc xs src ik (j + 1) ifs KH)) : CoP c d loc T (.dict k v) acc xs src ik j ifs KH := by
 obtain ⟨_, _, h1, rfl, _, _, h2, _, _, h3, _, _, _, hr, h4, h5, h6, h7, _, h8, q⟩ := h
 cases hr
 exact ⟨_, Co_dict e eb h1 h2 h3 h4 h5 h6 h7 h8, q⟩
end
theorem C_funP {c : Cx} (ok : Ok c) {d a : Nat} {T : Hp} {args : List AV} {Q : AV → Hp → Prop} {fi : FI} {l : Loc} (hfi : lk c.G.fns a = some fi) (hl : binds fi.params args (fi.dfl.drop (args.length - (fi.params.length - fi.dfl.length))) (fi.params.length - fi.dfl.length) = some l) (h : ExP c d l T fi.body (fun _ T1 => Q .none T1) Q) : CaP c T a args (d + 1) Q := by
 obtain ⟨l', T', h1, q⟩ | ⟨v, T', h1, q⟩ := h
 ·exact ⟨_, _, C_fun ok (f := .nxt l') hfi hl h1, q⟩
 ·exact ⟨_, _, C_fun ok (f := .ret v) hfi hl h1, q⟩
noncomputable def kd (a : AO) : Nat := match a with
 | .inst C _ => C + 6
 | .dict .. => 0 | .list _ => 1 | .tuple _ => 2 | .range .. => 3 | .exc .. => 4
theorem ne_kd {T : Hp} {r x : Nat} {a b : AO} (h : T.get r = some a) (g : T.get x = some b) (q : Nat.beq (kd a) (kd b) = false) : x ≠ r := by
 rintro rfl
 rw [h] at g; cases g
 rw [Nat.beq_refl] at q; cases q
theorem get_kd {T : Hp} {r x : Nat} {a b o : AO} (h : T.get r = some a) (g : T.get x = some b) (q : Nat.beq (kd a) (kd b) = false) : (hput T r o).get x = some b := get_ne h (ne_kd h g q) g
end Mine
namespace Mine
section
variable {c : Cx} {d : Nat} {loc l : Loc} {T T' : Hp} {N : Loc → Hp → Prop} {R : AV → Hp → Prop} {xs : List Nat} {src j acc : Nat} {ik : IK} {b : PSs} {v : AV} {tst : PE} {ck : CK} {ifs : PEs} {KH : Hp → Prop}
theorem k_lo (h : Lo c xs src ik j b d loc T (.nxt l) T') (q : N l T') : LoP c d loc T xs src ik j b N R := .inl ⟨_, _, h, q⟩
theorem k_wl (h : Wl c tst b d loc T (.nxt l) T') (q : N l T') : WlP c d loc T tst b N R := .inl ⟨_, _, h, q⟩
theorem k_co (h : Co c ck acc xs src ik j ifs d loc T T') (q : KH T') : CoP c d loc T ck acc xs src ik j ifs KH := ⟨_, h, q⟩
theorem cmt {op : Cop} {a b : AV} {t w : Bool} (h : Cm c op a b T t) (e : t = w) : Cm c op a b T w := e ▸ h
end
end Mine
namespace Mine
theorem get_nf {T : Hp} {r x : Nat} {o b : AO} (ne : x ≠ r) (g : T.get x = some b) : (hput T r o).get x = some b := (get_off T ne).trans g
end Mine
namespace Mine
section
variable {T : Hp} {r j len ep : Nat} {x : Option AV} {es : List (AV × AV)} {xs : List AV}
theorem turnD (h : T.get r = some (.dict es ep)) (hl : es.length = len) (hj : (es.map (·.1))[j]? = x) : Turn T r j x (.dict len ep) := ⟨_, h, hl, hj⟩
theorem turnL (h : T.get r = some (.list xs)) (hj : xs[j]? = x) : Turn T r j x .list := ⟨_, h, hj⟩
theorem turnT (h : T.get r = some (.tuple xs)) (hj : xs[j]? = x) : Turn T r j x .tuple := ⟨_, h, hj⟩
theorem ikL (h : T.get r = some (.list xs)) : IkOf T r .list := ⟨_, h⟩
theorem ikT (h : T.get r = some (.tuple xs)) : IkOf T r .tuple := ⟨_, h⟩
end
end Mine
namespace Mine
noncomputable def fld (G : Tab) (C a : Nat) : Bool := match lk G.cls C with | some ci => ci.flds.contains a | none => false
noncomputable def mth (G : Tab) (C m : Nat) : Option Nat := match lk G.cls C with | some ci => lk ci.meths m | none => none
theorem fld_of {G : Tab} {C a : Nat} (h : fld G C a = true) : ∃ ci, lk G.cls C = some ci ∧ ci.flds.contains a = true := by
 unfold fld at h
 cases e : lk G.cls C with
 | none => rw [e] at h; cases h
 | some ci => rw [e] at h; exact ⟨ci, rfl, h⟩
theorem mth_of {G : Tab} {C m f : Nat} (h : mth G C m = some f) : ∃ ci, lk G.cls C = some ci ∧ lk ci.meths m = some f := by
 unfold mth at h
 cases e : lk G.cls C with
 | none => rw [e] at h; cases h
 | some ci => rw [e] at h; exact ⟨ci, rfl, h⟩
section
variable {c : Cx} {d r C x a m f : Nat} {loc : Loc} {T : Hp} {Q : AV → Hp → Prop} {QL : List AV → Hp → Prop} {N : Loc → Hp → Prop} {R : AV → Hp → Prop} {l : PEs} {e : PE} {v : AV} {fs : List (Nat × AV)} {K : Hp → Prop} {KV : AV → Prop} {KN : Nat → Nat → Prop}
theorem E_la (ok : Ok c) (h0 : lk loc x = some (.ref r)) (h : T.get r = some (.inst C fs)) (h2 : fld c.G C a = true) (h4 : lk fs a = some v) (q : Q v T) : EvP c d loc T (.attr (.loc x) a) Q :=
 let ⟨_, h5, h6⟩ := fld_of h2; ⟨_, _, R_attr ok (R_loc h0) h h5 h6 h4, q⟩
theorem k_at2 (h : T.get r = some (.inst C fs)) (h2 : fld c.G C a = true) (h4 : lk fs a = some v) (q : KV v) : AtP c T (.ref r) a KV := let ⟨_, h5, h6⟩ := fld_of h2; ⟨_, _, _, _, _, rfl, h, h5, h6, h4, q⟩
theorem k_mt2 (h : T.get r = some (.inst C fs)) (h2 : mth c.G C m = some f) (h4 : lk fs m = none) (q : KN r f) : MtP c T (.ref r) m KN := let ⟨_, h5, h6⟩ := mth_of h2; ⟨_, _, _, _, _, rfl, h, h5, h6, h4, q⟩
theorem k_as2 (h : T.get r = some (.inst C fs)) (h2 : fld c.G C a = true) (h4 : fs.length < 500) (h5 : 1 ≤ r) (q : K (hput T r (.inst C (pt fs a v)))) : AsP c T (.ref r) a v K := let ⟨_, h6, h7⟩ := fld_of h2; ⟨_, _, _, _, rfl, h, h6, h7, h4, h5, q⟩
theorem E_lm (ok : Ok c) (h0 : lk loc x = some (.ref r)) (h : T.get r = some (.inst C fs)) (h2 : mth c.G C m = some f) (h4 : lk fs m = none) (q : EsP c d loc T l fun vs T2 => CaP c T2 f (.ref r :: vs) d Q) : EvP c d loc T (.meth (.loc x) m l) Q :=
 E_meth ok (E_loc h0 (k_mt2 h h2 h4 q))
theorem Es_loc (h : lk loc x = some v) (q : EsP c d loc T l fun vs T2 => QL (v :: vs) T2) : EsP c d loc T (.cons (.loc x) l) QL := Es_cons (E_loc h q)
noncomputable def AlP (c : Cx) (loc : Loc) (x a : Nat) (v : AV) (T : Hp) (K : Hp → Prop) : Prop := ∃ r C fs, lk loc x = some (.ref r) ∧ T.get r = some (.inst C fs) ∧ fld c.G C a = true ∧ fs.length < 500 ∧ 1 ≤ r ∧ K (hput T r (.inst C (pt fs a v)))
theorem k_al (h0 : lk loc x = some (.ref r)) (h : T.get r = some (.inst C fs)) (h2 : fld c.G C a = true) (h4 : fs.length < 500) (h5 : 1 ≤ r) (q : K (hput T r (.inst C (pt fs a v)))) : AlP c loc x a v T K := ⟨_, _, _, h0, h, h2, h4, h5, q⟩
theorem S_asgL (ok : Ok c) (h : EvP c d loc T e fun v T1 => AlP c loc x a v T1 fun T3 => N loc T3) : StP c d loc T (.asgA (.loc x) a e) N R := by
 obtain ⟨_, _, h1, _, _, _, h0, h3, h4, h6, h7, q⟩ := h
 obtain ⟨_, h4, h5⟩ := fld_of h4
 exact .inl ⟨_, _, R_asgA ok h1 (R_loc h0) h3 h4 h5 h6 h7, q⟩
end
end Mine
namespace Mine
theorem C_funQ {c : Cx} (ok : Ok c) {d a : Nat} {T : Hp} {args : List AV} {Q : AV → Hp → Prop} {fi : FI} {l : Loc} (hfi : lk c.G.fns a = some fi) (hl : binds fi.params args (fi.dfl.drop (args.length - (fi.params.length - fi.dfl.length))) (fi.params.length - fi.dfl.length) = some l) (h : ∀ Q' : AV → Hp → Prop, (∀ u T', Q u T' → Q' u T') → ExP c d l T fi.body (fun _ T1 => Q' .none T1) Q') : CaP c T a args (d + 1) Q := C_funP ok hfi hl (h Q fun _ _ q => q)
end Mine
namespace Mine
theorem Upd.leA {T X : Hp} (u : Upd T.n All T X) : T.n ≤ X.n := u.1
theorem CaP.imp {c : Cx} {T : Hp} {a d : Nat} {args : List AV} {P Q : AV → Hp → Prop} (h : CaP c T a args d P) (k : ∀ v T', P v T' → Q v T') : CaP c T a args d Q := let ⟨v, T', h, p⟩ := h; ⟨v, T', h, k v T' p⟩
end Mine
namespace Mine
theorem lk_same {l : Loc} {x : Nat} {v : AV} : lk (pt l x v) x = some v := by rw [lk_pt, if_pos rfl]
theorem lk_else {l : Loc} {x y : Nat} {v w : AV} (ne : Nat.beq y x = false) (h : lk l y = some w) : lk (pt l x v) y = some w := by rw [lk_pt, if_neg fun e => by rw [e, Nat.beq_refl] at ne; cases ne]; exact h
theorem modI {c : Cx} {T : Hp} {x y z : Int} (p : 0 < y) (h : Int.fmod x y = z) : Bi c .mod (.int x) (.int y) T (.int z) T := h ▸ B_modI p
end Mine
namespace Mine
theorem C_funL {c : Cx} (ok : Ok c) {d a : Nat} {T : Hp} {args : List AV} {Q : AV → Hp → Prop} {fi : FI} {l : Loc} (hfi : lk c.G.fns a = some fi) (hl : binds fi.params args (fi.dfl.drop (args.length - (fi.params.length - fi.dfl.length))) (fi.params.length - fi.dfl.length) = some l) (h : ∀ l' : Loc, (∀ x v, lk l x = some v → lk l' x = some v) → ∀ Q' : AV → Hp → Prop, (∀ u T', Q u T' → Q' u T') → ExP c d l' T fi.body (fun _ T1 => Q' .none T1) Q') : CaP c T a args (d + 1) Q := C_funP ok hfi hl (h l (fun _ _ e => e) Q fun _ _ q => q)
end Mine
end
section
open PySem PySem.W PyProof.Rows
namespace Mine
noncomputable abbrev Lone (c : Cx) (ρ δ : Nat → Addr) (n : Nat) (h0 : Heap) (b : Addr) : Prop := h0.get? b = none ∧ c.hb.get? b = none ∧ Off c ρ δ n b
noncomputable def Tba (c : Cx) (ρ δ : Nat → Addr) (n : Nat) (h0 h : Heap) (e : Addr) (v : Value) : Prop :=
 ∃ o vs t oT ts, h.get? e = some o ∧ o.data = .fields vs ∧ vs[1]? = some (.ref t) ∧ t ≠ e ∧ h.get? t = some oT ∧ oT.data = .fields ts ∧ ts[3]? = some v ∧ Lone c ρ δ n h0 t
noncomputable def Tbk (c : Cx) (ρ δ : Nat → Addr) (n : Nat) (h0 h : Heap) (e : Addr) (F : Option Addr) : Prop :=
 (∃ o vs, h.get? e = some o ∧ o.data = .fields vs ∧ vs[1]? = some .none) ∨ Tba c ρ δ n h0 h e .none ∨ ∃ L, F = some L ∧ Tba c ρ δ n h0 h e (rawInt L)
structure Nt (c : Cx) (ρ δ : Nat → Addr) (n : Nat) (e : Addr) (h0 h h' : Heap) : Prop where
 keep : ∀ b o, h.get? b = some o → b ≠ e → Lone c ρ δ n h0 b ∨ ∃ sl, h'.get? b = some { o with slots := sl } ∧ ((c.hb.get? b = none ∧ Off c ρ δ n b ∧ ∃ es k, o.data = .dict es k) ∨ sl = o.slots)
 live : ∀ b, Live h b → Live h' b
 dct : ∀ b, Dl h b → Dl h' b
 ex : ∀ o vs, h.get? e = some o → o.data = .fields vs → ∃ o' vs', h'.get? e = some o' ∧ o'.cls = o.cls ∧ o'.dict = o.dict ∧ o'.data = .fields vs'
section
variable {c : Cx} {ρ δ : Nat → Addr} {n : Nat} {e : Addr} {h0 h h' h'' : Heap}
theorem Nt.trans (a : Nt c ρ δ n e h0 h h') (b : Nt c ρ δ n e h0 h' h'') : Nt c ρ δ n e h0 h h'' where
 keep := fun x o q ne => (a.keep x o q ne).elim .inl fun ⟨sl, q1, r1⟩ => (b.keep x _ q1 ne).imp id fun ⟨sl2, q2, r2⟩ => ⟨sl2, q2, r2.elim (fun z => .inl z) fun z => r1.imp id fun y => z.trans y⟩
 live := fun x l => b.live x (a.live x l)
 dct := fun x l => b.dct x (a.dct x l)
 ex := fun o vs q r => let ⟨o1, v1, q1, c1, d1, f1⟩ := a.ex o vs q r; let ⟨o2, v2, q2, c2, d2, f2⟩ := b.ex o1 v1 q1 f1; ⟨o2, v2, q2, c2.trans c1, d2.trans d1, f2⟩
theorem Nt.push {o : Obj} : Nt c ρ δ n e h0 h (h.push o) where
 keep := fun x ox q _ => .inr ⟨ox.slots, Heap.get?_push_of_some _ q, .inr rfl⟩
 live := fun x ⟨ox, q⟩ => ⟨ox, Heap.get?_push_of_some _ q⟩
 dct := fun x ⟨ox, es, k, q, r⟩ => ⟨ox, es, k, Heap.get?_push_of_some _ q, r⟩
 ex := fun ox vs q r => ⟨ox, vs, Heap.get?_push_of_some _ q, rfl, rfl, r⟩
theorem set_shape {o : Obj} {vs : Array Value} (hd : o.data = .fields vs) (f : Array Value → Array Value) : (Obj.mapFields f o).cls = o.cls ∧ (Obj.mapFields f o).dict = o.dict := by
 obtain ⟨a, b, d, s⟩ := o; cases hd; exact ⟨rfl, rfl⟩
theorem Nt.set {t : Addr} {o : Obj} {vs : Array Value} {f : Array Value → Array Value} (ht : h.get? t = some o) (hd : o.data = .fields vs) (hx : t = e ∨ Lone c ρ δ n h0 t) : Nt c ρ δ n e h0 h (h.update t (Obj.mapFields f)) where
 keep := fun x ox q ne => by
  by_cases z : x = t
  ·subst z; exact .inl (hx.resolve_left ne)
  ·exact .inr ⟨ox.slots, (Heap.get?_update_other _ _ (Ne.symm z)).trans q, .inr rfl⟩
 live := fun x ⟨ox, q⟩ => by
  by_cases z : x = t
  ·subst z; exact ⟨_, Heap.get?_update_self _ ht (Obj.isFreed_of_fields (Obj.data_mapFields hd _))⟩
  ·exact ⟨ox, (Heap.get?_update_other _ _ (Ne.symm z)).trans q⟩
 dct := fun x ⟨ox, es, k, q, r⟩ => ⟨ox, es, k, (Heap.get?_update_other _ _ fun z => by subst z; rw [ht] at q; cases q; rw [hd] at r; cases r).trans q, r⟩
 ex := fun ox vs' q r => by
  by_cases z : e = t
  ·subst z
   rw [ht] at q; cases q
   exact ⟨_, _, Heap.get?_update_self _ ht (Obj.isFreed_of_fields (Obj.data_mapFields hd _)), (set_shape hd _).1, (set_shape hd _).2, Obj.data_mapFields hd _⟩
  ·exact ⟨ox, vs', (Heap.get?_update_other _ _ (Ne.symm z)).trans q, rfl, rfl, r⟩
theorem FrL.fun {l : List Env} (f : FrL c ρ δ n h l) : h.FunFrames c.hb l := by
 induction l with
 | nil => trivial
 | cons a l ih =>
  obtain ⟨k, L, e1, e2, _, o, es, i, q, r⟩ := f a (.head _)
  exact ⟨k, ⟨L, o, e1, e2, q, fun vs z => by rw [r] at z; cases z⟩, ih fun x hx => f x (.tail _ hx)⟩
theorem FrL.mem {l : List Env} (f : FrL c ρ δ n h l) {b : Addr} (hb : b ∈ l.filterMap (·.frame)) : c.hb.get? b = none ∧ Off c ρ δ n b ∧ Dl h b := by
 obtain ⟨a, ha, q⟩ := List.mem_filterMap.mp hb
 obtain ⟨_, L, e1, e2, o, x⟩ := f a ha
 rw [e1] at q; cases q
 exact ⟨e2, o, x⟩
theorem Nt.slots {l : List Env} (f : FrL c ρ δ n h l) (x : Heap.SlotsOnly (l.filterMap (·.frame)) h h') (he : e ∉ l.filterMap (·.frame)) : Nt c ρ δ n e h0 h h' where
 keep := fun b o q ne => by
  by_cases z : b ∈ l.filterMap (·.frame)
  ·obtain ⟨sl, y⟩ := x.2.2 b o q
   obtain ⟨y1, y2, o', es, k, q', r⟩ := f.mem z
   rw [q] at q'; cases q'
   exact .inr ⟨sl, y, .inl ⟨y1, y2, es, k, r⟩⟩
  ·exact .inr ⟨o.slots, (x.2.1 b z).trans q, .inr rfl⟩
 live := fun b ⟨o, q⟩ => let ⟨sl, y⟩ := x.2.2 b o q; ⟨_, y⟩
 dct := fun b ⟨o, es, k, q, r⟩ => let ⟨sl, y⟩ := x.2.2 b o q; ⟨_, es, k, y, r⟩
 ex := fun o vs q r => ⟨o, vs, (x.2.1 e he).trans q, rfl, rfl, r⟩
end
section
variable {c : Cx} {M : Model} {A : Around} {E : Value → Shared → Prop} {s : Shared} {ρ δ : Nat → Addr} {T : Hp} {h0 : Heap} {e L : Addr} {env e0 : Env} {l : List Env} {Q : Unit → Shared → Prop}
theorem note0 {oe : Obj} {vs : Array Value} {head : Value} {b : Bool} (hr : HR c ρ δ T T.n s.heap) (fm : Fm c ρ δ T.n A s.heap (e0 :: l)) (h00 : e0.frame = env.frame) (hf : env.frame = some L) (lv : ∀ b, Live h0 b → Live s.heap b)
  (he : s.heap.get? e = some oe) (hd : oe.data = .fields vs) (hsz : 1 < vs.size)
  (h : ∀ h', Nt c ρ δ T.n e h0 s.heap h' → Tba c ρ δ T.n h0 h' e (rawInt L) → Q () { s with heap := h' }) :
  wpAny M A (do let a ← PySem.frameOf env; let pl ← entryPlaceOf L b; let b ← EntryCells.newEntry head a .none (rawInt L) .none pl; setField (.ref e) 1 b) Q E s := by
 have hene : e ∉ (e0 :: l).filterMap (·.frame) := fun hm => by
  obtain ⟨_, _, o, es, k, q, r⟩ := fm.ok.mem hm
  rw [he] at q; cases q; rw [hd] at r; cases r
 have fo : PySem.frameOf env = PySem.frameOf e0 := by unfold PySem.frameOf; rw [h00]
 rw [fo]
 refine wpAny_bind (wpAny_frameOf_fun fm.fr fm.ok.fun (h00.trans hf) fun h₁ hs₁ => ?_)
 refine wpAny_bind (wpAny_entryPlaceOf fun pl hpl => ?_)
 unfold EntryCells.newEntry newFields
 refine wpAny_bind (wpAny_newObj_type ?_ (hpl.sizeOk5 _ _ _ _ _))
 generalize hob : ({ cls := .type "traceback", dict := none, data := .fields ([head, .ref L, .none, rawInt L, .none] ++ (if pl.isEmpty then List.replicate 6 Value.none else pl)).toArray } : Obj) = ob
 have hfr' : ob.isFreed = false := by rw [← hob]; rfl
 have he₁ : h₁.get? e = some oe := (hs₁.2.1 e hene).trans he
 have he₂ := Heap.get?_push_of_some (h := h₁) ob he₁
 have lt := Heap.lt_size he₁
 have hn : h₁.objs.size ≠ e := Nat.ne_of_gt lt
 have dd : s.heap.get? h₁.objs.size = none := by
  cases q : s.heap.get? h₁.objs.size with
  | none => rfl
  | some o =>
   obtain ⟨sl, z⟩ := hs₁.2.2 _ o q
   exact absurd (Heap.lt_size z) (Nat.lt_irrefl _)
 have n1 : Nt c ρ δ T.n e h0 s.heap h₁ := .slots fm.ok hs₁ hene
 refine wpAny_setField he₂ hd hsz (h _ ((n1.trans .push).trans (.set he₂ hd (.inl rfl))) ⟨_, _, h₁.objs.size, ob, _, Heap.get?_update_self _ he₂ (Obj.isFreed_of_fields (Obj.data_mapFields hd _)), Obj.data_mapFields hd _, ?_, hn, (Heap.get?_update_other _ _ (Ne.symm hn)).trans (Heap.get?_push_size h₁ hfr'), by rw [← hob], rfl, ?_, hr.dead dd, hr.offNew dd⟩)
 ·simp [hsz]
 ·cases q : h0.get? h₁.objs.size with
  | none => rfl
  | some o => obtain ⟨o', z⟩ := lv _ ⟨o, q⟩; rw [dd] at z; cases z
theorem seatN (hr : HR c ρ δ T T.n s.heap) (fm : Fm c ρ δ T.n A s.heap (e0 :: l)) (h00 : e0.frame = env.frame) (hf : env.frame = some L) (lv : ∀ b, Live h0 b → Live s.heap b) (off : ∀ t, Lone c ρ δ T.n h0 t → t ≠ e)
  (tk : Tbk c ρ δ T.n h0 s.heap e (some L)) (h : ∀ h', Nt c ρ δ T.n e h0 s.heap h' → Tba c ρ δ T.n h0 h' e (rawInt L) → Q () { s with heap := h' }) : wpAny M A (noteFrame (.ref e) env) Q E s := by
 unfold noteFrame
 simp only [hf]
 have nn : Nt c ρ δ T.n e h0 s.heap s.heap := ⟨fun b o q _ => .inr ⟨o.slots, q, .inr rfl⟩, fun _ x => x, fun _ x => x, fun o vs q r => ⟨o, vs, q, rfl, rfl, r⟩⟩
 rcases tk with ⟨oe, vs, he, hd, hv⟩ | ⟨oe, vs, t, oT, ts, he, hd, h1, te, hT, hdT, h3, lo⟩ | ⟨L', hL, oe, vs, t, oT, ts, he, hd, h1, te, hT, hdT, h3, lo⟩
 ·refine wpAny_bind (wpAny_field he hd hv ?_)
  rw [if_neg (by decide)]
  exact note0 hr fm h00 hf lv he hd (Array.getElem?_eq_some_iff.mp hv).1 h
 ·refine wpAny_bind (wpAny_field he hd h1 ?_)
  rw [if_pos (show (Value.ref t != Value.none) = true from by simp)]
  refine wpAny_bind (wpAny_field hT hdT h3 ?_)
  rw [if_neg (show ¬ ((Value.none == rawInt L) = true) from by simp [rawInt])]
  refine wpAny_bind (wpAny_setField hT hdT (Array.getElem?_eq_some_iff.mp h3).1 ?_)
  have n1 : Nt c ρ δ T.n e h0 s.heap (s.heap.update t (Obj.mapFields (·.setIfInBounds 3 Value.none))) := .set hT hdT (.inr lo)
  have g1 : Go c (fun a => a = t) ρ δ T.n s.heap ρ δ T.n (s.heap.update t (Obj.mapFields (·.setIfInBounds 3 Value.none))) := ⟨Nat.le_refl _, fun _ _ => ⟨rfl, rfl⟩, fun i a b => absurd b (Nat.not_lt.mpr a), fun b o q x y => ⟨o.slots, (Heap.get?_update_other _ _ (Ne.symm y)).trans q, .inr rfl⟩, n1.live, fun b ⟨o, es, k, q, r⟩ _ => ⟨o, es, k, (Heap.get?_update_other _ _ fun z => by subst z; rw [hT] at q; cases q; rw [hdT] at r; cases r).trans q, r⟩⟩
  have hr1 : HR c ρ δ T T.n (s.heap.update t (Obj.mapFields (·.setIfInBounds 3 Value.none))) := hr.of_ext (a := t) (fun b o ne q => (Heap.get?_update_other _ _ (Ne.symm ne)).trans q) lo.2.2 lo.2.1
  refine note0 (s := { s with heap := s.heap.update t (Obj.mapFields (·.setIfInBounds 3 Value.none)) }) hr1 (fm.go g1) h00 hf (fun b x => n1.live b (lv b x)) ((Heap.get?_update_other _ _ te).trans he) hd (Array.getElem?_eq_some_iff.mp h1).1 fun h' y z => h h' (n1.trans y) z
 ·cases hL
  refine wpAny_bind (wpAny_field he hd h1 ?_)
  rw [if_pos (show (Value.ref t != Value.none) = true from by simp)]
  refine wpAny_bind (wpAny_field hT hdT h3 ?_)
  rw [if_pos (show (rawInt L == rawInt L) = true from by simp)]
  exact wpAny_pure (h s.heap nn ⟨oe, vs, t, oT, ts, he, hd, h1, te, hT, hdT, h3, lo⟩)
theorem flightN {F : Option Addr} {v : Value} (tb : Tba c ρ δ T.n h0 s.heap e v) (h : ∀ h', Nt c ρ δ T.n e h0 s.heap h' → Tba c ρ δ T.n h0 h' e (F.elim .none fun f => rawInt f) → Q () { s with heap := h' }) : wpAny M A (setFlight (.ref e) F) Q E s := by
 obtain ⟨oe, vs, t, oT, ts, he, hd, h1, te, hT, hdT, h3, lo⟩ := tb
 unfold setFlight
 refine wpAny_bind (wpAny_field he hd h1 ?_)
 rw [if_pos (show (Value.ref t != Value.none) = true from by simp)]
 have sz := (Array.getElem?_eq_some_iff.mp h3).1
 exact wpAny_setField hT hdT sz (h _ (.set hT hdT (.inr lo)) ⟨oe, vs, t, _, _, (Heap.get?_update_other _ _ te).trans he, hd, h1, te, Heap.get?_update_self _ hT (Obj.isFreed_of_fields (Obj.data_mapFields hdT _)), Obj.data_mapFields hdT _, by simp [sz], lo⟩)
end
section
variable {c : Cx} {ρ δ : Nat → Addr} {T : Hp} {r C : Nat} {fs : List (Nat × AV)} {h0 h h' : Heap}
theorem Nt.go (x : Nt c ρ δ T.n (ρ r) h0 h h') (h1 : 1 ≤ r) (lt : r < T.n) : Go c (fun a => h0.get? a = none) ρ δ T.n h ρ δ T.n h' where
 le := Nat.le_refl _
 same := fun _ _ => ⟨rfl, rfl⟩
 fresh := fun i a b => absurd b (Nat.not_lt.mpr a)
 keep := fun b o q off nx => by
  rcases x.keep b o q (Ne.symm (off r h1 lt).1) with y | ⟨sl, y, z⟩
  ·exact absurd y.1 nx
  ·exact ⟨sl, y, z.imp (·.2.2) id⟩
 live := x.live
 dct := fun b z _ => x.dct b z
theorem Nt.hr (x : Nt c ρ δ T.n (ρ r) h0 h h') (hr : HR c ρ δ T T.n h) (h1 : 1 ≤ r) (ht : T.get r = some (.exc C fs)) : HR c ρ δ T T.n h' := by
 obtain ⟨lt, ⟨oe, ws, q1, q2, q3, q4⟩, es, k, q5, q6⟩ := hr.obj r _ ht
 have hbs : ∀ b o, c.hb.get? b = some o → h'.get? b = some o := fun b o q => by
  have ne : b ≠ ρ r := fun z => by rw [z, (hr.new r h1 lt).1] at q; cases q
  rcases x.keep b o (hr.base b o q) ne with y | ⟨sl, y, z⟩
  ·rw [y.2.1] at q; cases q
  ·rcases z with z | z
   ·rw [z.1] at q; cases q
   ·rw [z] at y; exact y
 have own : ∀ b o, h.get? b = some o → b ≠ ρ r → ¬ Off c ρ δ T.n b → h'.get? b = some o := fun b o q ne nf => by
  rcases x.keep b o q ne with y | ⟨sl, y, z⟩
  ·exact absurd y.2.2 nf
  ·rcases z with z | z
   ·exact absurd z.2.1 nf
   ·rw [z] at y; exact y
 refine ⟨hbs, fun i o q => ?_, hr.new, hr.apart, fun i q => ⟨x.live _ (hr.liv i q).1, x.live _ (hr.liv i q).2⟩, hr.ro, hr.old⟩
 obtain ⟨li, oi⟩ := hr.obj i o q
 refine ⟨li, ?_⟩
 by_cases z : i = r
 ·subst z
  rw [ht] at q; cases q
  obtain ⟨o', ws', p1, p2, p3, p4⟩ := x.ex oe ws q1 q4
  refine ⟨⟨o', ws', p1, p2.trans q2, p3.trans q3, p4⟩, es, k, own _ _ q5 (fun w => ?_) (fun w => (w i h1 lt).2 rfl), q6⟩
  rw [w, q1] at q5
  cases q5; cases q4
 ·have a1 := hr.apart i r li lt z
  have a2 := hr.apart r i lt li (Ne.symm z)
  by_cases i0 : 1 ≤ i
  ·exact oi.up (Nat.le_refl _) (fun _ _ => rfl) (fun o' q' => own _ _ q' a1.1 fun w => (w i i0 li).1 rfl) (fun o' q' => own _ _ q' (Ne.symm a2.2.1) fun w => (w i i0 li).2 rfl)
  ·have old := hr.old i (Nat.lt_of_not_le i0)
   refine oi.up (Nat.le_refl _) (fun _ _ => rfl) (fun o' q' => ?_) (fun o' q' => ?_)
   ·obtain ⟨u, hu⟩ := old.1
    have := hr.base _ _ hu
    rw [q'] at this; cases this; exact hbs _ _ hu
   ·obtain ⟨u, hu⟩ := old.2
    have := hr.base _ _ hu
    rw [q'] at this; cases this; exact hbs _ _ hu
theorem Go.late {X : Addr → Prop} {ρ0 δ0 : Nat → Addr} {n0 n : Nat} {h0 h h' : Heap} (g : Go c X ρ0 δ0 n0 h0 ρ δ n h) (g' : Go c (fun a => h0.get? a = none) ρ δ n h ρ δ n h') : Go c X ρ0 δ0 n0 h0 ρ δ n h' where
 le := g.le
 same := g.same
 fresh := g.fresh
 keep := fun b o e x y => let ⟨_, e1, d1⟩ := g.keep b o e x y; let ⟨sl, e2, d2⟩ := g'.keep b _ e1 (g.off x ⟨o, e⟩) (fun z => by rw [e] at z; cases z); ⟨sl, e2, d2.elim .inl fun q => d1.imp id q.trans⟩
 live := fun b x => g'.live b (g.live b x)
 dct := fun b x y => g'.dct b (g.dct b x y) (g.off y (let ⟨o, _, _, e, _⟩ := x; ⟨o, e⟩))
end
end Mine
end
section
open PySem PySem.W
namespace Mine
section
variable {prog : Program} {w : World} {A : Around} {E : Value → Shared → Prop} {h : Heap} {g : Array GenState} {d : Drawn} {t : Nat} {os : OsState}
variable {nm q : Str} {C N : Addr} {bs bm : List Value} {hdct : Bool} {sn : List Str} {sub : List Value} {ab : Bool} {col : Option Bool} {dd : Option Addr} {k0 k1 k2 k3 k5 : Option Value}
theorem x_check_new {M : Model} {rest : List Value} {Q : Unit → Shared → Prop} (hC : h.get? C = some (excClassObj nm q C N bs bm hdct sn sub ab col dd k0 k1 k2 k3 k5 "ValueError.__new__")) (hV : bm.contains (.type "ValueError") = true)
  (hq : Q () ⟨h, g, d, t, os⟩) : wpAny M A (checkBuiltinCall "ValueError.__new__" ⟨.ref C :: rest, []⟩) Q E ⟨h, g, d, t, os⟩ := by
 have F := PySem.F.excBase_ValueError
 have hcont : (Value.ref C :: bm).contains (.type "ValueError") = true := by rw [List.contains_cons, hV, Bool.or_true]
 have hstar := F.noStar
 unfold checkBuiltinCall
 rw [F.newKind, F.newSplit, F.newRow]
 dsimp only
 repeat (first | refine wpAny_loadPart_at hC ?_ | (refine wpAny_isSubtype_exc hC ?_; rw [hcont]) | refine wpAny_staticBase_exc hC ?_ | refine wpAny_madeBy_exc hC ?_ | (rw [if_neg (by rw [bne_self_eq_false]; exact Bool.false_ne_true)]) | rw [if_pos (by decide)] | wp_step)
 exact hq
theorem x_new {R : Result → Shared → Prop} {rest : List Value} (hC : h.get? C = some (excClassObj nm q C N bs bm hdct sn sub ab col dd k0 k1 k2 k3 k5 "ValueError.__new__"))
  (hV : bm.contains (.type "ValueError") = true) (hA : bm.contains (.type "AttributeError") = false) (hN : bm.contains (.type "NameError") = false)
  (hq : R (.ok (.ret (.ref (h.objs.size + 1)))) ⟨(h.push { cls := .type "tuple", data := .seq rest.toArray }).push { cls := .ref C, data := .fields #[.ref h.objs.size, .none, .none, .none, .bool false, .none] }, g, d, t, os⟩) (hrest : rest.length ≤ sizeLine) :
  codeAny (model prog w) A (.builtin "ValueError.__new__" ⟨.ref C :: rest, []⟩) R ⟨h, g, d, t, os⟩ := by
 have F := PySem.F.excBase_ValueError
 have hends := F.ends
 have hcB : (Value.ref C :: bm).contains (.type "ValueError") = true := by rw [List.contains_cons, hV, Bool.or_true]
 have hcA : (Value.ref C :: bm).contains (.type "AttributeError") = false := by rw [List.contains_cons, hA]; rfl
 have hcN : (Value.ref C :: bm).contains (.type "NameError") = false := by rw [List.contains_cons, hN]; rfl
 refine codeAny_builtinAt F.entry ?_
 unfold Builtin.«BaseException.__new__»
 refine wpAt_bind ?_
 show wpAt _ _ _ (stack >>= _) _ _ _
 refine wpAt_bind (wpAt_stack fun p below => wpAt_of_wpAny ?_)
 wp_walk
 refine wpAt_of_wpAny ?_
 rw [F.owner]
 repeat (first | with_reducible refine wpAny_madeHere_exc F.canon hC ?_ | with_reducible refine wpAny_loadPart_at hC ?_ | (with_reducible refine wpAny_isSubtype_exc hC ?_; first | rw [hcB] | rw [hcA] | rw [hcN]) | wp_step)
 show R _ _
 rw [Heap.size_push]
 exact hq
theorem x_call {rest : List Value} {fI : Addr} {Q : Value → Shared → Prop} (hC : h.get? C = some (excClassObj nm q C N bs bm hdct sn sub ab col dd k0 k1 k2 k3 k5 "ValueError.__new__"))
  (hV : bm.contains (.type "ValueError") = true) (hA : bm.contains (.type "AttributeError") = false) (hN : bm.contains (.type "NameError") = false)
  (hlk : Looks (model prog w) h (typeLookup (.ref C) "__init__") (some (.ref fI))) (hfI : Looks (model prog w) h (typeOf (.ref fI)) (.type "function"))
  (hq : ∀ h' e, Heap.MadeExcOf h h' e (.ref C) rest →
   wpAny (model prog w) (A.under (.builtin "type.__call__" ⟨.ref C :: rest, []⟩)) (call (.ref fI) (.ref e :: rest)) (fun r s' => r = .none ∧ Q (.ref e) s') E ⟨h', g, d, t, os⟩) (hrest : rest.length ≤ sizeLine) :
  wpAny (model prog w) A (call (.ref C) rest) Q E ⟨h, g, d, t, os⟩ := by
 have F := PySem.F.excBase_ValueError
 have f1 := tc_lookup
 have f2 := tc_bind (.ref C)
 have hT : (⟨h, g, d, t, os⟩ : Shared).TypeIs (.ref C) "type" := ⟨_, hC, rfl⟩
 refine wpAny_call (codeAny_of_tree ?_)
 show wpAny _ _ (callAny (.ref C) _) _ _ _
 repeat (any_goals (first | assumption | with_reducible refine wpAny_loadPart_at hC ?_ | wp_step))
 refine ⟨rfl, ?_⟩
 refine codeAny_call_builtin_at (Code.quiet_builtin _ (by decide +kernel)) entry_typeCall (wpAny_check_type_call_sub hC ?_)
 repeat (first | with_reducible refine wpAny_loadPart_at hC ?_ | with_reducible refine wpAny_madeBy_exc hC ?_ | wp_step)
 refine codeAny_call_builtin_code (Code.quiet_builtin _ F.quiet) (x_check_new hC hV ?_)
 refine x_new hC hV hA hN ?_ hrest
 show wpAny _ _ _ _ _ _
 have kp : ∀ b o, h.get? b = some o → ((h.push { cls := .type "tuple", data := .seq rest.toArray }).push { cls := .ref C, data := .fields #[.ref h.objs.size, .none, .none, .none, .bool false, .none] }).get? b = some o := fun b o e => Heap.get?_push_of_some _ (Heap.get?_push_of_some _ e)
 have hC₁ := kp _ _ hC
 have hget : ((h.push { cls := .type "tuple", data := .seq rest.toArray }).push
   { cls := .ref C, data := .fields #[.ref h.objs.size, .none, .none, .none, .bool false, .none] }).get? (h.objs.size + 1) = some
   { cls := .ref C, data := .fields #[.ref h.objs.size, .none, .none, .none, .bool false, .none] } := by heap_get
 have hcC : (Value.ref C :: bm).contains (.ref C) = true := by simp
 unfold isInstance
 repeat (first | with_reducible refine wpAny_loadPart_at hget ?_ | (with_reducible refine wpAny_isSubtype_exc hC₁ ?_; rw [hcC]) | wp_step)
 show wpAny _ _ (isSubtype (.ref C) (.ref C)) _ _ _
 refine wpAny_isSubtype_exc hC₁ ?_
 rw [hcC]
 repeat (first | with_reducible refine wpAny_loadPart_at hget ?_ | wp_step)
 show wpAny _ _ (typeLookup (.ref C) _) _ _ _
 refine Looks.at (hlk.keeps kp) ?_
 refine wpAny_holding (wpAny_bind ?_)
 unfold bindSpecial
 refine wpAny_bind (Looks.at (hfI.keeps kp) ?_)
 rw [if_pos (by decide)]
 refine wpAny_pure (wpAny_bind (wpAny_mono (hq _ (h.objs.size + 1) ⟨kp, Heap.get?_none_of_le (Nat.le_succ _), h.objs.size, hget, Heap.get?_none_of_le (Nat.le_refl _), ?_⟩) (fun r s' hr => ?_) fun _ _ x => x))
 ·exact Heap.get?_push_of_some _ (Heap.get?_push_at rfl rfl)
 ·obtain ⟨rfl, hQ⟩ := hr
  wp_walk
  exact hQ
end
end Mine
end
section
open PySem PySem.W
namespace Mine
theorem wd_slot : Slot "wrapper_descriptor" "__get__" "wrapper_descriptor.__get__" := .of (owner := "wrapper_descriptor") (n := "__get__") (by rw [typeLookup_type, builtinLookup_eq_fast]; kernel_rfl) (by decide +kernel) (by decide +kernel) (by decide +kernel)
 (by first | exact .inl (by decide +kernel) | exact .inr (by decide +kernel)) (by rw [isSubtype_type]; kernel_rfl)
theorem wd_entry : entryFor table "wrapper_descriptor.__get__" = some Builtin.«wrapper_descriptor.__get__» := entryFor_of_tree (by kernel_rfl)
theorem wd_args (a b c : Value) : argsOk "wrapper_descriptor.__get__" ⟨[a, b, c], []⟩ := by unfold argsOk; kernel_rfl
theorem wd_type : typeOf (.builtin "ValueError.__init__") = pure (.type "wrapper_descriptor") := by kernel_rfl
section
variable {prog : Program} {w : World} {A : Around} {E : Value → Shared → Prop} {h : Heap} {g : Array GenState} {d : Drawn} {t : Nat} {os : OsState}
variable {nm q : Str} {C N : Addr} {bs bm : List Value} {hdct : Bool} {sn : List Str} {sub : List Value} {ab : Bool} {col : Option Bool} {dd : Option Addr} {k0 k1 k2 k3 k5 : Option Value}
noncomputable abbrev mwObj (x : Addr) : Obj := { cls := .type "method-wrapper", data := .fields #[.builtin "ValueError.__init__", .ref x] }
theorem x_bind {x : Addr} {ox : Obj} {Q : Fin → Shared → Prop} (hC : h.get? C = some (excClassObj nm q C N bs bm hdct sn sub ab col dd k0 k1 k2 k3 k5 "ValueError.__new__")) (hV : bm.contains (.type "ValueError") = true)
  (hx : h.get? x = some ox) (hxc : ox.cls = .ref C) (hq : Q (.done (.ret (.ref h.objs.size))) ⟨h.push (mwObj x), g, d, t, os⟩) :
  wpAny (model prog w) A (Builtin.«wrapper_descriptor.__get__» ⟨[.builtin "ValueError.__init__", .ref x, .ref C], []⟩) Q E ⟨h, g, d, t, os⟩ := by
 have hcont : (Value.ref C :: bm).contains (.type "ValueError") = true := by rw [List.contains_cons, hV, Bool.or_true]
 have ho : (".".intercalate ("ValueError.__init__".cutAt '.').dropLast) = "ValueError" := by decide +kernel
 unfold Builtin.«wrapper_descriptor.__get__»
 repeat (first | (with_reducible refine wpAny_loadPart_at hx ?_; rw [hxc]) | (with_reducible refine wpAny_isSubtype_exc hC ?_; rw [hcont]) | rw [ho] | wp_step)
 exact hq
theorem x_super_ga {so D x : Addr} {ox : Obj} {l₀ l : List Value} {K : Frag} {tk : Tok} {Q : Fin → Shared → Prop} (hC : h.get? C = some (excClassObj nm q C N bs bm hdct sn sub ab col dd k0 k1 k2 k3 k5 "ValueError.__new__")) (hV : bm.contains (.type "ValueError") = true)
  (hx : h.get? x = some ox) (hxc : ox.cls = .ref C) (hso : h.get? so = some { cls := .type "super", dict := none, data := .fields #[.ref D, .ref x, .ref C], slots := #[] }) (hno : Looks (model prog w) h (opaqueClassAbove (.ref C)) none)
  (hm : Looks (model prog w) h (mroOf (.ref C)) l₀) (hl : (l₀.dropWhile (· != .ref D)).drop 1 = l) (X : K.In h) (hf : alongIn K "__init__" l = some (some (.builtin "ValueError.__init__"))) (hxC : x ≠ C)
  (hq : Q (.done (.ret (.ref h.objs.size))) ⟨h.push (mwObj x), g, d, t, os⟩) :
  wpAny (model prog w) A (Builtin.«super.__getattribute__» ⟨[.ref so, .str "__init__" tk], []⟩) Q E ⟨h, g, d, t, os⟩ := by
 have hlk := wd_slot.lookup
 have hne : (Value.ref x == Value.ref C) = false := by simp [hxC]
 have hty := wd_type
 have hTf : (⟨h, g, d, t, os⟩ : Shared).TypeIs (.builtin "ValueError.__init__") "wrapper_descriptor" := wd_type
 have hdt : ({ cls := .type "super", dict := none, data := .fields #[.ref D, .ref x, .ref C], slots := #[] } : Obj).data = .fields #[.ref D, .ref x, .ref C] := rfl
 have f0 : (#[.ref D, .ref x, .ref C] : Array Value)[0]? = some (.ref D) := rfl
 have f1 : (#[.ref D, .ref x, .ref C] : Array Value)[1]? = some (.ref x) := rfl
 have f2 : (#[.ref D, .ref x, .ref C] : Array Value)[2]? = some (.ref C) := rfl
 have hn : (("__init__" : Str) == ("__class__" : Str)) = false := by decide
 unfold Builtin.«super.__getattribute__»
 repeat (first
  | (with_reducible refine wpAny_field hso hdt f0 ?_) | (with_reducible refine wpAny_field hso hdt f1 ?_) | (with_reducible refine wpAny_field hso hdt f2 ?_)
  | (with_reducible refine ks_wpAny_notOpaque hno ?_)
  | (with_reducible refine Looks.at hm ?_; rw [hl])
  | (refine ks_forIn_along X (fun _ _ => rfl) rfl ?_ hf)
  | (with_reducible refine wpAny_typeOf hTf ?_)
  | (with_reducible refine wpAny_call_entry wd_slot hTf wd_entry ?_ (wd_args _ _ _))
  | (with_reducible refine x_bind hC hV hx hxc ?_)
  | (with_reducible refine ⟨_, rfl, ?_⟩)
  | (rw [if_neg (by rw [hn, hne]; exact Bool.false_ne_true)])
  | (rw [if_neg (by rw [hne, Bool.or_false, hn]; exact Bool.false_ne_true)])
  | (rw [if_neg (by rw [hn]; exact Bool.false_ne_true)])
  | (rw [if_neg (by rw [hne]; exact Bool.false_ne_true)])
  | wp_step
  | dsimp only)
 exact hq
theorem x_getMethod {so D x : Addr} {ox : Obj} {l₀ l : List Value} {K : Frag} {pl : Sem Bool} {Q : Value × List Value → Shared → Prop} (hC : h.get? C = some (excClassObj nm q C N bs bm hdct sn sub ab col dd k0 k1 k2 k3 k5 "ValueError.__new__")) (hV : bm.contains (.type "ValueError") = true)
  (hx : h.get? x = some ox) (hxc : ox.cls = .ref C) (hso : h.get? so = some { cls := .type "super", dict := none, data := .fields #[.ref D, .ref x, .ref C], slots := #[] }) (hno : Looks (model prog w) h (opaqueClassAbove (.ref C)) none)
  (hm : Looks (model prog w) h (mroOf (.ref C)) l₀) (hl : (l₀.dropWhile (· != .ref D)).drop 1 = l) (X : K.In h) (hf : alongIn K "__init__" l = some (some (.builtin "ValueError.__init__"))) (hxC : x ≠ C)
  (hq : Q (.ref h.objs.size, []) ⟨h.push (mwObj x), g, d, t + 1, os⟩) :
  wpAny (model prog w) A (getMethod (.ref so) "__init__" pl) Q E ⟨h, g, d, t, os⟩ := by
 have hlk := F.ks_slot_super_ga.lookup
 have hcan := F.ks_canon_super_ga
 have hT : ∀ t', (⟨h, g, d, t', os⟩ : Shared).TypeIs (.ref so) "super" := fun _ => ⟨_, hso, rfl⟩
 unfold getMethod
 refine wpAny_bind (wpAny_specialOf (hT _) hlk ?_)
 show wpAny _ _ (if (Manifest.canonical "super.__getattribute__" != "object.__getattribute__") = true then _ else _) _ _ _
 rw [if_pos hcan]
 unfold getAttr getAttrBy
 refine wpAny_bind (wpAny_bind (wpAny_mkText (wpAny_holding (wpAny_bind (wpAny_typeOf (hT _) (wpAny_bind (wpAny_of_eq hlk ?_)))))))
 show wpAny _ _ (getAttrByItsOwn (.ref so) (.str "__init__" t) (.type "super") (.builtin "super.__getattribute__") true false) _ _ _
 unfold getAttrByItsOwn hookBefore callGetattribute boundAndCalled
 refine wpAny_bind (wpAny_of_eq (show (if onTheHeap (.type "super") then typeLookup (.type "super") "__getattr__" else pure none) = pure none from rfl) ?_)
 refine wpAny_bind (wpAny_attempt (wpAny_holding ?_))
 show wpAny _ _ (bindSpecial (.builtin "super.__getattribute__") (.ref so) >>= _) _ _ _
 refine wpAny_bind (wpAny_of_eq (F.ks_slot_super_ga.bind _) ?_)
 refine wpAny_mono (Q := fun v s' => v = .ref h.objs.size ∧ s' = ⟨h.push (mwObj x), g, d, t + 1, os⟩) (E := fun _ _ => False)
  (wpAny_call_entry F.ks_slot_super_ga (hT _) F.ks_entry_super_ga (x_super_ga hC hV hx hxc hso hno hm hl X hf hxC ⟨_, rfl, rfl, rfl⟩) (F.ks_gaArgs_super _ _)) (fun v s' hv => ?_) fun _ _ z => z.elim
 obtain ⟨rfl, rfl⟩ := hv
 exact wpAny_pure (wpAny_pure hq)
theorem x_init {m x ta : Addr} {v : Value} {Q : Value → Shared → Prop} (hC : h.get? C = some (excClassObj nm q C N bs bm hdct sn sub ab col dd k0 k1 k2 k3 k5 "ValueError.__new__")) (hm : h.get? m = some (mwObj x)) (hx : h.get? x = some { cls := .ref C, data := .fields #[.ref ta, .none, .none, .none, .bool false, .none] })
  (hq : ∀ h', h'.get? x = some { cls := .ref C, data := .fields #[.ref h.objs.size, .none, .none, .none, .bool false, .none] } → (∀ b o, b ≠ x → h.get? b = some o → h'.get? b = some o) → Q .none ⟨h', g, d, t, os⟩) : wpAny (model prog w) A (call (.ref m) [v]) Q E ⟨h, g, d, t, os⟩ := by
 have F := F.excBase_ValueError
 refine wpAny_call (codeAny_of_tree ?_)
 show wpAny _ _ (callAny (.ref m) _) _ _ _
 unfold callAny
 refine wpAny_bind (wpAny_load hm ?_)
 show wpAny _ _ (checkBoundCall "ValueError.__init__" ⟨[.ref x, v], []⟩ >>= fun _ => again (.builtin "ValueError.__init__" ⟨[.ref x, v], []⟩)) _ _ _
 have hc : ∀ {Q' : Unit → Shared → Prop} {E' : Value → Shared → Prop} {A' : Around}, Q' () ⟨h, g, d, t, os⟩ → wpAny (model prog w) A' (checkBoundCall "ValueError.__init__" ⟨[.ref x, v], []⟩) Q' E' ⟨h, g, d, t, os⟩ := by
  intro Q' E' A' q
  unfold checkBoundCall
  have hstar := F.noStar
  simp -iota only [F.initRow, F.initKind]
  repeat (first | with_reducible refine wpAny_loadPart_at hx ?_ | with_reducible refine wpAny_loadPart_at hC ?_ | with_reducible refine wpAny_load hC ?_ | wp_step)
  all_goals first
   | exact q
   | (refine wpAny_onRaise ?_; rw [show ∀ (a b : String) (n : Nat), Bind.check ⟨.positional, "*", "ValueError", .self, [⟨"args", .varPos, false⟩]⟩ a b n (List.map (fun x => x.fst) ({ pos := [Value.ref x, v] } : Args).kw) = pure () from fun a b n => check_star_args _ _ _ _ _ _]; exact wpAny_pure q)
 refine wpAny_bind (hc (wpAny_pure ⟨Code.quiet_builtin _ (by decide +kernel), codeAny_builtin F.initEntry ?_⟩))
 unfold Builtin.«BaseException.__init__»
 have hx' := Heap.get?_push_of_some { cls := .type "tuple", data := .seq #[v] } hx
 repeat (first | wp_step)
 refine hq _ (Heap.get?_update_self _ hx' rfl) fun b o nb q => (Heap.get?_update_other _ _ (Ne.symm nb)).trans (Heap.get?_push_of_some _ q)
end
end Mine
end
section
open PySem PySem.W
namespace Mine
open Builtin Builtin.ObjectAttr
section
variable {prog : Program} {w : World} {A : Around} {E : Value → Shared → Prop} {s : Shared} {K : Frag} {x C : Addr} {ox : Obj} {od : Option Obj}
theorem x_sa {l : List Value} {name : Str} {v : Value} {Q : Unit → Shared → Prop} (X : K.In s.heap) (I : InstAt s.heap x ox C od) (hs : findIn K (.ref C) "__setattr__" = some (some (.builtin "object.__setattr__")))
  (hm : Looks (model prog w) s.heap (mroOf (.ref C)) l) (hr : ∀ self, refuseLoop self "__setattr__" l = pure ()) (ho : mroIn K C (.type "object") = some true) (hn : findIn K (.ref C) name = some none)
  (h : wpAny (model prog w) A.in1 (storeInOwnDict (.ref x) (.ref C) (.str name s.toks) name v false) (fun fin s' => fin = .done (.ret .none) ∧ Q () s') E { s with toks := s.toks + 1 }) :
  wpAny (model prog w) A (setAttr (.ref x) name v) Q E s := by
 have SF := PySem.F.store_object
 refine set_plain X I hs ?_
 have sub : Looks (model prog w) s.heap (isInstance (.ref x) (.type "object")) true := I.type.andThen (looks_mroIn X ho)
 refine codeAny_call_builtin SF.slot.plain SF.entry (@check_slot (model prog w) _ _ { s with toks := s.toks + 1 } "object.__setattr__" "object" "__setattr__" (.ref x) [.str name s.toks, v] [] _ SF.kind SF.split sub (SF.args (.ref x) (.str name s.toks) v) ?_)
 rw [osa_eq, refuse_eq]
 refine wpAny_bind (wpAny_bind (Looks.here (s := { s with toks := s.toks + 1 }) I.type (wpAny_bind (Looks.here (s := { s with toks := s.toks + 1 }) hm ?_))))
 rw [hr]
 refine wpAny_pure (wpAny_bind (Looks.here (s := { s with toks := s.toks + 1 }) I.type (wpAny_bind (Looks.here (s := { s with toks := s.toks + 1 }) (looks_findIn X hn) (wpAny_bind (wpAny_pure (a := (none : Option Value)) ?_))))))
 refine wpAny_mono h (fun fin s' z => ?_) fun _ _ z => z
 obtain ⟨rfl, z⟩ := z
 exact z
end
section
variable {c : Cx} {prog : Program} {w : World} {A : Around} {E : Value → Shared → Prop} {s : Shared} {K : Frag} {x C D : Addr} {n : Nat} {ρ : Nat → Addr} {fs : List (Nat × AV)} {a : Nat} {av : AV} {v : Value} {cd : ClassData} {es : List DictEntry} {k : Nat} {dt0 : Array Value} {sl : Array (Option Value)}
theorem x_put {tk : Tok} {Q : Fin → Shared → Prop} (hD : s.heap.get? D = some (dictOf es k)) (F : FsR n ρ fs es) (hl : fs.length < 500) (vr : VR n ρ av v)
  (h : ∀ es' k' t', (s.heap.update D (Obj.putName (nmS a) (PyData.keyHash w.params (nmS a)) (.str (nmS a) s.toks) v)).get? D = some (dictOf es' k') → FsR n ρ (pt fs a av) es' → Q (.done (.ret .none)) { s with heap := s.heap.update D (Obj.putName (nmS a) (PyData.keyHash w.params (nmS a)) (.str (nmS a) s.toks) v), toks := t' }) :
  wpAny (model prog w) A (storeInDict D (.str (nmS a) tk) (nmS a) v) Q E s := by
 have hfr : (Obj.putName (nmS a) (PyData.keyHash w.params (nmS a)) (.str (nmS a) s.toks) v (dictOf es k)).isFreed = false := by rw [putName_dict]; rfl
 have D' := Heap.get?_update_self (Obj.putName (nmS a) (PyData.keyHash w.params (nmS a)) (.str (nmS a) s.toks) v) hD hfr
 rw [putName_dict] at D'
 unfold storeInDict newKeyGuard
 refine wpAny_bind (wpAny_pure (wpAny_bind ?_))
 unfold nsSet
 refine wpAny_bind (wpAny_bind (wpAny_askSetting (wpAny_pure (wpAny_bind (wpAny_mkText (wpAny_bind (wpAny_loadPart hD ?_)))))))
 dsimp only
 have cc : (!es.toArray.any (·.key.isStr (nmS a)) && es.toArray.any (·.refKey)) = false := by
  rw [← Array.any_toList, ← Array.any_toList, F.norefs, Bool.and_false]
 rw [aRefKeyMayBeTheName_at, cc]
 refine wpAny_updatePart hD ?_
 have hz : (putL (nmS a) (PyData.keyHash w.params (nmS a)) (.str (nmS a) s.toks) v es).toArray.size ≤ sizeLine + 1 := by
  have h1 := putL_len (nmS a) (PyData.keyHash w.params (nmS a)) (.str (nmS a) s.toks) v es
  rw [List.size_toArray, sizeLine_eq]
  have := F.len
  omega
 refine wpAny_bind (wpAny_lookBehind D' (pastItsLine_dict hz) ?_)
 exact wpAny_pure (h _ _ _ D' (F.put vr))
theorem x_set1 {tk : Tok} {Q : Fin → Shared → Prop} (X : K.In s.heap) (hc : clsIn K C = some cd) (hd : cd.hasDict = true) (hx : s.heap.get? x = some ⟨.ref C, none, .fields dt0, sl⟩) (vr : VR n ρ av v)
  (h : ∀ h' es' k' t', h'.get? x = some ⟨.ref C, some s.heap.objs.size, .fields dt0, sl⟩ → h'.get? s.heap.objs.size = some (dictOf es' k') → FsR n ρ [(a, av)] es' → (∀ b o, b ≠ x → s.heap.get? b = some o → h'.get? b = some o) → Q (.done (.ret .none)) { s with heap := h', toks := t' }) :
  wpAny (model prog w) A (storeInOwnDict (.ref x) (.ref C) (.str (nmS a) tk) (nmS a) v false) Q E s := by
 have hxs : x ≠ s.heap.objs.size := Nat.ne_of_lt (Heap.lt_size hx)
 have hx₁ : (s.heap.push { cls := .type "dict", data := .dict #[] }).get? x = some ⟨.ref C, none, .fields dt0, sl⟩ := Heap.get?_push_of_some _ hx
 unfold storeInOwnDict
 refine wpAny_bind (wpAny_pure (wpAny_bind ?_))
 refine wpAny_bind (wpAny_loadPart hx (wpAny_bind ((looks_clsIn X hc).here ?_)))
 rw [hd]
 refine wpAny_bind (wpAny_alloc' ?_)
 refine wpAny_bind (wpAny_update' hx₁ ?_)
 refine wpAny_pure ?_
 have hgx : ((s.heap.push { cls := .type "dict", data := .dict #[] }).update x fun o => { o with dict := some s.heap.objs.size }).get? x = some ⟨.ref C, some s.heap.objs.size, .fields dt0, sl⟩ := Heap.get?_update_self _ hx₁ rfl
 have hgd : ((s.heap.push { cls := .type "dict", data := .dict #[] }).update x fun o => { o with dict := some s.heap.objs.size }).get? s.heap.objs.size = some (dictOf [] 0) :=
  (Heap.get?_update_other _ _ hxs).trans (Heap.get?_push_at rfl rfl)
 refine x_put (s := { s with heap := (s.heap.push { cls := .type "dict", data := .dict #[] }).update x fun o => { o with dict := some s.heap.objs.size } }) (fs := []) hgd trivial (by decide) vr fun es' k' t' q f => h _ es' k' t' ((Heap.get?_update_other _ _ (Ne.symm hxs)).trans hgx) q f fun b o nb q => ?_
 exact (Heap.get?_update_other _ _ (Ne.symm (Nat.ne_of_lt (Heap.lt_size q)))).trans ((Heap.get?_update_other _ _ (Ne.symm nb)).trans (Heap.get?_push_of_some _ q))
theorem x_set2 {tk : Tok} {Q : Fin → Shared → Prop} (X : K.In s.heap) (hc : clsIn K C = some cd) (hd : cd.hasDict = true) (hx : s.heap.get? x = some ⟨.ref C, some D, .fields dt0, sl⟩) (hD : s.heap.get? D = some (dictOf es k)) (F : FsR n ρ fs es) (hl : fs.length < 500) (vr : VR n ρ av v)
  (h : ∀ h' es' k' t', h'.get? x = some ⟨.ref C, some D, .fields dt0, sl⟩ → h'.get? D = some (dictOf es' k') → FsR n ρ (pt fs a av) es' → (∀ b o, b ≠ D → s.heap.get? b = some o → h'.get? b = some o) → Q (.done (.ret .none)) { s with heap := h', toks := t' }) :
  wpAny (model prog w) A (storeInOwnDict (.ref x) (.ref C) (.str (nmS a) tk) (nmS a) v false) Q E s := by
 have hxD : x ≠ D := fun z => by rw [z, hD] at hx; cases hx
 unfold storeInOwnDict
 refine wpAny_bind (wpAny_pure (wpAny_bind ?_))
 refine wpAny_bind (wpAny_loadPart hx (wpAny_bind ((looks_clsIn X hc).here ?_)))
 rw [hd]
 refine wpAny_pure (a := some D) ?_
 exact x_put hD F hl vr fun es' k' t' q f => h _ es' k' t' ((Heap.get?_update_other _ _ (Ne.symm hxD)).trans hx) q f fun b o nb q => (Heap.get?_update_other _ _ (Ne.symm nb)).trans q
end
end Mine
end
section
open PySem PySem.W
namespace Mine
noncomputable abbrev kWord : Nat := 1702064248
noncomputable abbrev kPlace : Nat := 439770836337
theorem nm_word : nmS kWord = "word" := by decide +kernel
theorem nm_place : nmS kPlace = "place" := by decide +kernel
noncomputable def initBody (p0 p1 ap p2 p3 p4 q1 q2 q3 q4 r1 r2 r3 r4 : Pos) : List Stmt :=
 [.Expr (.Call (.Attribute (.Call (.Name "super" p0) [] [] p1) "__init__" ap) [.Name "word" p2] [] p3) p4,
 .Assign [.Attribute (.Name "self" q1) "word" q2] (.Name "word" q3) q4,
 .Assign [.Attribute (.Name "self" r1) "place" r2] (.Name "place" r3) r4]
noncomputable def oF (K : Frag) (a : Nat) : Obj := (K.lookup a).getD default
noncomputable def fF (o : Obj) : FuncData := match o.data with | .func fd => fd | _ => default
noncomputable def cF (o : Obj) : ClassData := match o.data with | .cls cd => cd | _ => default
noncomputable def vF (o : Obj) : Array Value := match o.data with | .fields vs => vs | _ => #[]
noncomputable def aF (v : Value) : Nat := match v with | .ref a => a | _ => 0
noncomputable def sF (v : Value) : Str := match v with | .str s _ => s | _ => Str.empty
noncomputable def tF' (v : Value) : Tok := match v with | .str _ t => t | _ => 0
noncomputable abbrev xF (o : Obj) (C : Nat) : Obj := excClassObj (cF o).name (cF o).qualname C (cF o).ns (cF o).bases ((cF o).mro.drop 1) (cF o).hasDict (cF o).slotNames (cF o).subclasses (cF o).abstract (cF o).collection o.dict (o.slots.getD 0 none) (o.slots.getD 1 none) (o.slots.getD 2 none) (o.slots.getD 3 none) (o.slots.getD 5 none) "ValueError.__new__"
structure PsI where
 (p0 p1 ap p2 p3 p4 q1 q2 q3 q4 r1 r2 r3 r4 : Pos)
structure ExT (K : Frag) (prog : Program) (D fI : Nat) (P : PsI) : Prop where
 a1 : K.lookup fI = some (oF K fI)
 a2 : (oF K fI).data = .func (fF (oF K fI))
 a3 : (P.ap.endLine == P.p3.line) = true
 a4 : (fF (oF K fI)).body = .stmts (initBody P.p0 P.p1 P.ap P.p2 P.p3 P.p4 P.q1 P.q2 P.q3 P.q4 P.r1 P.r2 P.r3 P.r4)
 a5 : codeIn K (fF (oF K fI)).code (fF (oF K fI)).qualname = true
 a6 : (fF (oF K fI)).closure = [(("__class__" : Str), ((fF (oF K fI)).closure.head?.map (·.2)).getD 0)]
 a7 : (fF (oF K fI)).scope.kind = .function
 a8 : (fF (oF K fI)).scope.isCoroutine = false
 a9 : (fF (oF K fI)).scope.isGenerator = false
 a10 : (fF (oF K fI)).globals = mainGlobals
 a11 : (fF (oF K fI)).builtins = builtinsNs
 a12 : (fF (oF K fI)).scope.names = [(("self" : Str), .local), (("word" : Str), .local), (("place" : Str), .local), (("__class__" : Str), .free), (("super" : Str), .globalImplicit)]
 a13 : ((fF (oF K fI)).params.posonlyargs ++ (fF (oF K fI)).params.args).head?.map (·.arg) = some "self"
 a14 : (fF (oF K fI)).code = .ref (aF (fF (oF K fI)).code)
 a15 : K.lookup (aF (fF (oF K fI)).code) = some (oF K (aF (fF (oF K fI)).code))
 a16 : (oF K (aF (fF (oF K fI)).code)).data = .fields (vF (oF K (aF (fF (oF K fI)).code)))
 a17 : (vF (oF K (aF (fF (oF K fI)).code)))[2]? = some (.str (sF ((vF (oF K (aF (fF (oF K fI)).code))).getD 2 .none)) (tF' ((vF (oF K (aF (fF (oF K fI)).code))).getD 2 .none)))
 a18 : ((prog.main.file : Str) == sF ((vF (oF K (aF (fF (oF K fI)).code))).getD 2 .none)) = true
 a19 : K.lookup (((fF (oF K fI)).closure.head?.map (·.2)).getD 0) = some (oF K (((fF (oF K fI)).closure.head?.map (·.2)).getD 0))
 a20 : (oF K (((fF (oF K fI)).closure.head?.map (·.2)).getD 0)).data = .cell (some (.ref D))
 a21 : ∀ a b d : Value, ∀ S, peek K S (bindArgs (fF (oF K fI)) ⟨[a, b, d], []⟩) = some [(("self" : Str), a), (("word" : Str), b), (("place" : Str), d)]
 a22 : (prog.main.scope.names.lookup ("super" : Str)).isSome = false
 a23 : nsIn K mainGlobals "super" = some none
structure ExC (K : Frag) (D C fI : Nat) : Prop where
 b1 : K.lookup C = some (xF (oF K C) C)
 b2 : ((cF (oF K C)).mro.drop 1).contains (.type "ValueError") = true
 b3 : ((cF (oF K C)).mro.drop 1).contains (.type "AttributeError") = false
 b4 : ((cF (oF K C)).mro.drop 1).contains (.type "NameError") = false
 b5 : ((cF (oF K C)).mro.drop 1).contains (.type "BaseException") = true
 b6 : ∀ self, refuseLoop self "__setattr__" (.ref C :: (cF (oF K C)).mro.drop 1) = pure ()
 b7 : alongIn K "__init__" ((((Value.ref C :: (cF (oF K C)).mro.drop 1)).dropWhile (· != .ref D)).drop 1) = some (some (.builtin "ValueError.__init__"))
 b8 : clsIn K C = some (cF (oF K C))
 b9 : (cF (oF K C)).hasDict = true
 b10 : clsIn K D = some (cF (oF K D))
 b11 : mroIn K C (.ref D) = some true
 b12 : mroIn K D (.type "BaseException") = some true
 b13 : typeIn K (.ref D) = some (.type "type")
 b14 : mroIn K C (.type "object") = some true
 b15 : findIn K (.ref C) "__init__" = some (some (.ref fI))
 b16 : typeIn K (.ref fI) = some (.type "function")
 b17 : findIn K (.ref C) "__setattr__" = some (some (.builtin "object.__setattr__"))
 b18 : findIn K (.ref C) "__getattribute__" = some (some (.builtin "BaseException.__getattribute__"))
 b19 : findIn K (.ref C) "__getattr__" = some none
 b20 : findIn K (.ref C) "word" = some none
 b21 : findIn K (.ref C) "place" = some none
 b22 : nsIn K cStatics "thirdparty.any" = some none
 b23 : keepIn K (.ref C) = true
 b24 : exmOne K (.ref C) (.ref D) = some true
 b25 : mroIn K C (.type "BaseException") = some true
noncomputable def ExOk (c : Cx) (D C : Nat) : Prop := ∃ fI P, ExC c.K D C fI ∧ ExT c.K c.prog D fI P
theorem x_meth {prog : Program} {w : World} {A : Around} {E : Value → Shared → Prop} {s : Shared} {env : Env} {cd : Code} {o : PySem.Expr} {name x : Str} {apos pos xp : Pos} {Q : Value → Shared → Prop} (hl : (apos.endLine == pos.line) = true)
  (h : wpAt (model prog w) A cd (attributeBase o name env (eval o env)) (fun ov s₁ => ∀ pl, wpAny (model prog w) A (getMethod ov name pl) (fun fx s₂ => wpAny (model prog w) A (callWith pos fx.1 fx.2 (backTo pos (starEach [.Name x xp] env)) []) Q E s₂) E s₁) E s) :
  wpAt (model prog w) A cd (eval (.Call (.Attribute o name apos) [.Name x xp] [] pos) env) Q E s := by
 show wpAt _ _ _ (attributeBase o name env (eval o env) >>= fun ov => standAt apos.atName >>= fun _ => methodCall o name apos pos env ov 1 (backTo pos (starEach [.Name x xp] env)) []) _ _ _
 refine wpAt_bind (ks_wpAt_mono h (fun ov s₁ h₁ => wpAt_of_wpAny (wpAny_bind (wpAny_standAt ?_))) fun _ _ x => x)
 have hf : methodCallForm 1 (backTo pos (starEach [.Name x xp] env)) [] = true := rfl
 unfold methodCall calleeOf methodCallPos
 rw [hf, if_pos rfl]
 refine wpAny_bind (wpAny_holding (wpAny_mono (h₁ _) (fun fx s₂ h₂ => ?_) fun _ _ x => x))
 rw [hl]
 exact wpAny_bind (wpAny_pure h₂)
theorem x_asg {prog : Program} {w : World} {A : Around} {E : Value → Shared → Prop} {s : Shared} {fd : FuncData} {L f e : Addr} {attr y : Str} {q1 q2 q3 q4 : Pos} {m : Str → Option Value} {v : Value} {Q : Flow → Shared → Prop} (hk : fd.scope.kind = .function)
  (k1 : (callEnv fd L f).kindOf "self" = some .local) (k2 : (callEnv fd L f).kindOf y = some .local) (hn : s.heap.Ns L m) (m1 : m "self" = some (.ref e)) (m2 : m y = some v) (hy : (y == ("__debug__" : Str)) = false)
  (h : wpAny (model prog w) A (setAttr (.ref e) attr v) (fun _ => Q .next) E s) : wpAny (model prog w) A (exec (.Assign [.Attribute (.Name "self" q1) attr q2] (.Name y q3) q4) (callEnv fd L f)) Q E s := by
 refine wpAny_Assign_stores (ldc hk k2 hn m2 ?_ hy) rfl rfl
 show wpAny _ _ (holding [v] (eval (.Name "self" q1) (callEnv fd L f)) >>= fun ov => standAt q2.atName >>= fun _ => holding [v, ov] (setAttr ov attr v) >>= fun _ => release [v, ov] []) _ _ _
 exact wpAny_bind (wpAny_holding (ldc hk k1 hn m1 (wpAny_bind (wpAny_standAt (wpAny_bind (wpAny_holding (wpAny_mono h (fun _ _ z => wpAny_release z) fun _ _ z => z)))))))
section
variable {c : Cx} {A : Around} {E : Value → Shared → Prop} {h : Heap} {g : Array GenState} {d : Drawn} {t : Nat} {os : OsState} {D C fI : Nat}
theorem x_init_core (ok : Ok c) {o : Obj} {fd : FuncData} {p0 p1 ap p2 p3 p4 q1 q2 q3 q4 r1 r2 r3 r4 : Pos} {cc cda : Addr} {oc ocl : Obj} {vs : Array Value} {file : Str} {tf : Tok} {ar : Arg} {nm q : Str} {N : Addr} {bs bm : List Value} {hdct : Bool} {sn : List Str} {sub : List Value} {ab : Bool} {col : Option Bool} {dd : Option Addr} {k0 k1 k2 k3 k5 : Option Value} {cdD cd : ClassData}
  (h1 : c.K.lookup fI = some o) (h2 : o.data = .func fd) (hap : (ap.endLine == p3.line) = true) (h3 : fd.body = .stmts (initBody p0 p1 ap p2 p3 p4 q1 q2 q3 q4 r1 r2 r3 r4)) (h4 : codeIn c.K fd.code fd.qualname = true) (h5 : fd.closure = [(("__class__" : Str), cc)]) (h6 : fd.scope.kind = .function) (h7 : fd.scope.isCoroutine = false) (h8 : fd.scope.isGenerator = false) (h9 : fd.globals = mainGlobals) (h10 : fd.builtins = builtinsNs)
  (h11 : fd.scope.names = [(("self" : Str), .local), (("word" : Str), .local), (("place" : Str), .local), (("__class__" : Str), .free), (("super" : Str), .globalImplicit)]) (h12 : (fd.params.posonlyargs ++ fd.params.args).head? = some ar) (h13 : ar.arg = "self") (h14 : fd.code = .ref cda) (h15 : c.K.lookup cda = some oc) (h16 : oc.data = .fields vs) (h17 : vs[2]? = some (.str file tf)) (h18 : ((c.prog.main.file : Str) == file) = true) (h19 : c.K.lookup cc = some ocl) (h20 : ocl.data = .cell (some (.ref D)))
  (h21 : ∀ a b d : Value, ∀ S, peek c.K S (bindArgs fd ⟨[a, b, d], []⟩) = some [(("self" : Str), a), (("word" : Str), b), (("place" : Str), d)]) (htop : (c.prog.main.scope.names.lookup ("super" : Str)).isSome = false) (hsup : nsIn c.K mainGlobals "super" = some none)
  (c1 : c.K.lookup C = some (excClassObj nm q C N bs bm hdct sn sub ab col dd k0 k1 k2 k3 k5 "ValueError.__new__")) (c2 : bm.contains (.type "ValueError") = true) (c6 : ∀ self, refuseLoop self "__setattr__" (.ref C :: bm) = pure ()) (c7 : alongIn c.K "__init__" ((((Value.ref C :: bm)).dropWhile (· != .ref D)).drop 1) = some (some (.builtin "ValueError.__init__"))) (hcD : clsIn c.K D = some cdD) (hcd : clsIn c.K C = some cd) (hdict : cd.hasDict = true) (xo : ExC c.K D C fI)
  {e ta : Addr} {wv pv : Value} {w p : AV} {n : Nat} {ρ : Nat → Addr} {Q : Value → Shared → Prop} (kb : ∀ b o, c.hb.get? b = some o → h.get? b = some o) (hroom : A.depth < 950) (vw : VR n ρ w wv) (vp : VR n ρ p pv)
  (hE : c.hb.get? e = none) (he : h.get? e = some { cls := .ref C, data := .fields #[.ref ta, .none, .none, .none, .bool false, .none] })
  (hq : ∀ h' Dd es k ta' t', (∀ b o, b ≠ e → h.get? b = some o → h'.get? b = some o) → h.get? Dd = none → h'.get? e = some ⟨.ref C, some Dd, .fields #[.ref ta', .none, .none, .none, .bool false, .none], #[]⟩ → h'.get? Dd = some (dictOf es k) → FsR n ρ [(kWord, w), (kPlace, p)] es → Q .none ⟨h', g, d, t', os⟩) :
  wpAny (model c.prog c.w) A (call (.ref fI) [.ref e, wv, pv]) Q E ⟨h, g, d, t, os⟩ := by
 obtain ⟨mg, mb, n1, n2, n3⟩ := ok.nss
 have X : c.K.In h := ok.k.keeps kb
 refine wpAny_call ?_
 refine ks_codeAny_call_defAt (fd := fd) (body := initBody p0 p1 ap p2 p3 p4 q1 q2 q3 q4 r1 r2 r3 r4) (binds := [(("self" : Str), .ref e), (("word" : Str), wv), (("place" : Str), pv)]) (by unfold recursionLimit; omega) (X _ _ h1) h2 (ok.nolim.keeps kb) (codeRec_of X h4) h3
  (kp_binds X (h21 _ _ _)) (by rw [h11]; decide) (by rw [h11]; intro x hx; simp only [List.mem_cons, List.not_mem_nil, or_false] at hx; rcases hx with rfl | rfl | rfl <;> rfl) (fun h₀ hns kp => ?_) h7 h8 h6
 have X1 : c.K.In h₀ := X.keeps kp
 have kd : ∀ y : Str, (callEnv fd h.objs.size fI).kindOf y = fd.scope.names.lookup y := fun _ => rfl
 have ks : (callEnv fd h.objs.size fI).kindOf "super" = some .globalImplicit := by rw [kd, h11]; rfl
 have kc : (callEnv fd h.objs.size fI).kindOf "__class__" = some .free := by rw [kd, h11]; rfl
 have kself : (callEnv fd h.objs.size fI).kindOf "self" = some .local := by rw [kd, h11]; rfl
 have kword : (callEnv fd h.objs.size fI).kindOf "word" = some .local := by rw [kd, h11]; rfl
 have kplace : (callEnv fd h.objs.size fI).kindOf "place" = some .local := by rw [kd, h11]; rfl
 have cdD' : ∃ oD, c.K.lookup D = some oD ∧ oD.data = .cls cdD := by
  exact cls_data hcD
 obtain ⟨oD, hD1, hD2⟩ := cdD'
 have hL : h.get? h.objs.size = none := dead_end _ (Nat.le_refl _)
 have eL : e ≠ h.objs.size := Nat.ne_of_lt (Heap.lt_size he)
 have eC : e ≠ C := fun z => by
  have := ok.k _ _ c1
  rw [← z, hE] at this; cases this
 have l1 : ((callEnv fd h.objs.size fI).cells).lookup ("__class__" : Str) = some cc := by
  show fd.closure.lookup _ = _
  rw [h5]; rfl
 refine ks_wpAt_execs_cons (ks_wpAt_Expr_any (x_meth hap (ks_wpAt_super_base (env := callEnv fd h.objs.size fI) (f := fI) ks kc (by decide) rfl (X1 _ _ h1) h2 h12 h14 (X1 _ _ h15) h16 h17 h18 htop ?_)) ?_ ?_)
 rotate_left
 ·unfold interactive; rw [show (callEnv fd h.objs.size fI).scope.kind = .function from h6]; rfl
 ·rfl
 have kb1 : ∀ b o, c.hb.get? b = some o → h₀.get? b = some o := fun b o q => kp b o (kb b o q)
 refine ks_loadName_global h6 ks (Calls.loadGlobal_builtin (env := callEnv fd h.objs.size fI) (by rw [show (callEnv fd h.objs.size fI).globals = mainGlobals from h9]; exact n1.keeps kb1) (mg_none_of ok.k n1 hsup) (by rw [show (callEnv fd h.objs.size fI).builtins = builtinsNs from h10]; exact n2.keeps kb1) ((n3 _ (by decide)).trans (by rfl)) ⟨rfl, ?_⟩)
 refine wpAny_loadName_free h6 kc l1 ⟨_, X1 _ _ h19, h20⟩ ?_
 rw [h13]
 refine wpAny_loadName_local h6 kself hns rfl ?_
 refine ks_wpAny_isType_cls (X1 _ _ hD1) hD2 ⟨rfl, ?_⟩
 have he0 := kp _ _ he
 refine ks_wpAny_call_super (X1 _ _ hD1) hD2 he0 rfl (fun c e => by cases e) (looks_mroIn X1 xo.b11) (fun h2' e2 k2 pl => ?_)
 have kb2 : ∀ b o, c.hb.get? b = some o → h2'.get? b = some o := fun b o q => k2 b o (kb1 b o q)
 have X2 : c.K.In h2' := ok.k.keeps kb2
 have hC2 := X2 _ _ c1
 have he2 := k2 _ _ he0
 have lm : ∀ {hh : Heap}, c.K.In hh → Looks (model c.prog c.w) hh (mroOf (.ref C)) (.ref C :: bm) := fun {hh} Y A Q E s k q => by
  obtain ⟨h', g', d', t', os'⟩ := s
  exact wpAny_mroOf_exc (k _ _ (Y _ _ c1)) q
 refine x_getMethod hC2 c2 he2 rfl e2 (looks_opaque X2 xo.b22) (lm X2) rfl X2 c7 eC ?_
 obtain ⟨oL, esL, epL, hL0, hLr⟩ := hns
 have hns3 : (h2'.push (mwObj e)).Ns h.objs.size (fun x => [(("self" : Str), Value.ref e), (("word" : Str), wv), (("place" : Str), pv)].reverse.lookup x) := ⟨oL, esL, epL, Heap.get?_push_of_some _ (k2 _ _ hL0), hLr⟩
 unfold callWith
 refine wpAny_bind (wpAny_holding (Calls.evalArgs_plain ?_))
 refine Calls.spliced_cons (ldc h6 kword hns3 rfl ?_)
 refine Calls.spliced_nil ?_
 refine wpAny_bind (wpAny_standAt ?_)
 have hm3 : (h2'.push (mwObj e)).get? h2'.objs.size = some (mwObj e) := Heap.get?_push_at rfl rfl
 have kp3 : ∀ tk, wpAny (model c.prog c.w) (A.deeper (callEnv fd h.objs.size fI)) (keeperOf (.ref h2'.objs.size)) (fun kk s' => kk = .machine ∧ s' = ⟨h2'.push (mwObj e), g, d, tk, os⟩) (fun _ _ => False) ⟨h2'.push (mwObj e), g, d, tk, os⟩ := by
  intro tk
  unfold keeperOf
  repeat (first | with_reducible refine wpAny_loadPart_at hm3 ?_ | with_reducible refine wpAny_load hm3 ?_ | wp_step)
  all_goals exact ⟨rfl, rfl⟩
 refine wpAny_bind (wpAny_mono (kp3 _) (fun kk s' z => ?_) fun _ _ z => z.elim)
 obtain ⟨rfl, rfl⟩ := z
 show wpAny _ _ (call (.ref h2'.objs.size) [wv] [] >>= fun r => holding [r] point >>= fun _ => pure r) _ _ _
 refine wpAny_bind (x_init (Heap.get?_push_of_some _ hC2) hm3 (Heap.get?_push_of_some _ he2) fun h4 he4 k4 => wpAny_bind (wpAny_holding (wpAny_point (wpAny_pure ?_))))
 have ne2 : h.objs.size ≠ e := Ne.symm eL
 have k04 : ∀ b o, b ≠ e → h₀.get? b = some o → h4.get? b = some o := fun b o nb q => k4 b o nb (Heap.get?_push_of_some _ (k2 b o q))
 have hns4 : h4.Ns h.objs.size (fun x => [(("self" : Str), Value.ref e), (("word" : Str), wv), (("place" : Str), pv)].reverse.lookup x) := ⟨oL, esL, epL, k04 _ _ ne2 hL0, hLr⟩
 have kb4 : ∀ b o, c.hb.get? b = some o → h4.get? b = some o := fun b o q => k04 b o (fun z => by rw [z, hE] at q; cases q) (kb1 b o q)
 have X4 : c.K.In h4 := ok.k.keeps kb4
 refine ks_wpAt_execs_cons (wpAt_of_wpAny (x_asg h6 kself kword hns4 rfl rfl (by decide) ?_))
 have mr : ∀ self, refuseLoop self "__setattr__" (.ref C :: bm) = pure () := c6
 have I4 : InstAt h4 e { cls := .ref C, data := .fields #[.ref (h2'.push (mwObj e)).objs.size, .none, .none, .none, .bool false, .none] } C none := ⟨he4, rfl, rfl, trivial⟩
 have fw := xo.b20
 have fp := xo.b21
 rw [← nm_word] at fw ⊢
 rw [← nm_place] at fp
 refine x_sa (K := c.K) X4 I4 xo.b17 (lm X4) mr xo.b14 fw ?_
 refine x_set1 X4 hcd hdict he4 vw fun h5 es5 k5' t5 he5 hd5 f5 kp5 => ⟨rfl, ?_⟩
 have Dd : h4.get? h4.objs.size = none := dead_end _ (Nat.le_refl _)
 have hns5 : h5.Ns h.objs.size (fun x => [(("self" : Str), Value.ref e), (("word" : Str), wv), (("place" : Str), pv)].reverse.lookup x) := ⟨oL, esL, epL, kp5 _ _ ne2 (k04 _ _ ne2 hL0), hLr⟩
 have kb5 : ∀ b o, c.hb.get? b = some o → h5.get? b = some o := fun b o q => kp5 b o (fun z => by rw [z, hE] at q; cases q) (kb4 b o q)
 have X5 : c.K.In h5 := ok.k.keeps kb5
 refine ks_wpAt_execs_cons (wpAt_of_wpAny (x_asg h6 kself kplace hns5 rfl rfl (by decide) ?_))
 have I5 : InstAt h5 e ⟨.ref C, some h4.objs.size, .fields #[.ref (h2'.push (mwObj e)).objs.size, .none, .none, .none, .bool false, .none], #[]⟩ C (some (dictOf es5 k5')) := ⟨he5, rfl, rfl, hd5⟩
 rw [← nm_place]
 refine x_sa (K := c.K) X5 I5 xo.b17 (lm X5) mr xo.b14 fp ?_
 refine x_set2 X5 hcd hdict he5 hd5 f5 (lb rfl) vp fun h6' es6 k6 t6 he6 hd6 f6 kp6 => ⟨rfl, ?_⟩
 refine wpAt_of_wpAny (wpAny_execs_nil ?_)
 refine hq h6' h4.objs.size es6 k6 _ t6 (fun b o nb q => ?_) ?_ he6 hd6 f6
 ·have z4 := k04 b o nb (kp b o q)
  exact kp6 b o (fun z => by rw [z, Dd] at z4; cases z4) (kp5 b o nb z4)
 ·cases z : h.get? h4.objs.size with
  | none => rfl
  | some o =>
   by_cases z2 : h4.objs.size = e
   ·rw [z2] at Dd; rw [he4] at Dd; cases Dd
   ·have := k04 _ o z2 (kp _ o z); rw [Dd] at this; cases this
theorem x_init_call (ok : Ok c) {P : PsI} (xo : ExC c.K D C fI) (hi : ExT c.K c.prog D fI P) {e ta : Addr} {wv pv : Value} {w p : AV} {n : Nat} {ρ : Nat → Addr} {Q : Value → Shared → Prop} (kb : ∀ b o, c.hb.get? b = some o → h.get? b = some o) (hroom : A.depth < 950) (vw : VR n ρ w wv) (vp : VR n ρ p pv)
  (hE : c.hb.get? e = none) (he : h.get? e = some { cls := .ref C, data := .fields #[.ref ta, .none, .none, .none, .bool false, .none] })
  (hq : ∀ h' Dd es k ta' t', (∀ b o, b ≠ e → h.get? b = some o → h'.get? b = some o) → h.get? Dd = none → h'.get? e = some ⟨.ref C, some Dd, .fields #[.ref ta', .none, .none, .none, .bool false, .none], #[]⟩ → h'.get? Dd = some (dictOf es k) → FsR n ρ [(kWord, w), (kPlace, p)] es → Q .none ⟨h', g, d, t', os⟩) :
  wpAny (model c.prog c.w) A (call (.ref fI) [.ref e, wv, pv]) Q E ⟨h, g, d, t, os⟩ := by
 obtain ⟨ar, h12, h13⟩ := Option.map_eq_some_iff.mp hi.a13
 exact x_init_core ok hi.a1 hi.a2 hi.a3 hi.a4 hi.a5 hi.a6 hi.a7 hi.a8 hi.a9 hi.a10 hi.a11 hi.a12 h12 h13 hi.a14 hi.a15 hi.a16 hi.a17 hi.a18 hi.a19 hi.a20 hi.a21 hi.a22 hi.a23 xo.b1 xo.b2 xo.b6 xo.b7 xo.b10 xo.b8 xo.b9 xo kb hroom vw vp hE he hq
end
end Mine
end
section
open PySem PySem.W PyProof.Rows
namespace Mine
section
variable {c : Cx} {ρ δ : Nat → Addr} {n : Nat} {e : Addr} {h0 h1 h : Heap} {v : Value} {F : Option Addr}
theorem dead_back (k : ∀ b, Live h0 b → Live h1 b) {t : Addr} (d : h1.get? t = none) : h0.get? t = none := by
 cases q : h0.get? t with
 | none => rfl
 | some o => obtain ⟨o', z⟩ := k t ⟨o, q⟩; rw [d] at z; cases z
theorem Tba.back (x : Tba c ρ δ n h1 h e v) (k : ∀ b, Live h0 b → Live h1 b) : Tba c ρ δ n h0 h e v := by
 obtain ⟨o, vs, t, oT, ts, a1, a2, a3, a4, a5, a6, a7, a8, a9⟩ := x
 exact ⟨o, vs, t, oT, ts, a1, a2, a3, a4, a5, a6, a7, dead_back k a8, a9⟩
theorem Tbk.back (x : Tbk c ρ δ n h1 h e F) (k : ∀ b, Live h0 b → Live h1 b) : Tbk c ρ δ n h0 h e F := by
 rcases x with x | x | ⟨L, q, x⟩
 ·exact .inl x
 ·exact .inr (.inl (x.back k))
 ·exact .inr (.inr ⟨L, q, x.back k⟩)
theorem Tbk.any (x : Tbk c ρ δ n h1 h e none) : Tbk c ρ δ n h1 h e F := by
 rcases x with x | x | ⟨L, q, x⟩
 ·exact .inl x
 ·exact .inr (.inl x)
 ·cases q
end
noncomputable def Kx (c : Cx) (s : Shared) (ρ δ : Nat → Addr) (T T' : Hp) (r : Nat) (E : Value → Shared → Prop) : Prop :=
 ∀ ρ' δ' h' t', Go c No ρ δ T.n s.heap ρ' δ' T'.n h' → HR c ρ' δ' T' T'.n h' → Tbk c ρ' δ' T'.n s.heap h' (ρ' r) none → E (.ref (ρ' r)) (Sh s h' t')
noncomputable def Kxs (c : Cx) (env : Env) (s : Shared) (ρ δ : Nat → Addr) (T T' : Hp) (loc : Loc) (r : Nat) (E : Value → Shared → Prop) : Prop :=
 ∀ ρ' δ' h' t', Go c (Own env) ρ δ T.n s.heap ρ' δ' T'.n h' → HR c ρ' δ' T' T'.n h' → FR c ρ' δ' T'.n loc env h' → Tbk c ρ' δ' T'.n s.heap h' (ρ' r) env.frame → E (.ref (ρ' r)) (Sh s h' t')
noncomputable def XEv (c : Cx) (e : PE) (d : Nat) (loc : Loc) (T : Hp) (r : Nat) (T' : Hp) : Prop :=
 ∀ (x : PySem.Expr) (env : Env) (A : Around) (s : Shared) (ρ δ : Nat → Addr) (Q E : Value → Shared → Prop), ME e env.kindOf x → At c d loc T env A s ρ δ → Kx c s ρ δ T T' r E → wpAny (model c.prog c.w) A (eval x env) Q E s
noncomputable def XCa (c : Cx) (a : Nat) (args : List AV) (d : Nat) (T : Hp) (r : Nat) (T' : Hp) : Prop :=
 ∀ (A : Around) (s : Shared) (ρ δ : Nat → Addr) (R : Result → Shared → Prop) (vals : List Value), VRs T.n ρ args vals → HR c ρ δ T T.n s.heap → Room d A → (∃ l, Fm c ρ δ T.n A s.heap l) → Kx c s ρ δ T T' r (fun e s' => R (.error e) s') → codeAny (model c.prog c.w) A (.call (.ref a) ⟨vals, []⟩) R s
noncomputable def XSt (c : Cx) (st : PS) (d : Nat) (loc : Loc) (T : Hp) (loc' : Loc) (r : Nat) (T' : Hp) : Prop :=
 ∀ (x : Stmt) (env : Env) (A : Around) (s : Shared) (ρ δ : Nat → Addr) (Q : Flow → Shared → Prop) (E : Value → Shared → Prop), MS st env.kindOf x → At c d loc T env A s ρ δ → Kxs c env s ρ δ T T' loc' r E → wpAny (model c.prog c.w) A (exec x env) Q E s
noncomputable def XEx (c : Cx) (b : PSs) (d : Nat) (loc : Loc) (T : Hp) (loc' : Loc) (r : Nat) (T' : Hp) : Prop :=
 ∀ (x : List Stmt) (env : Env) (A : Around) (s : Shared) (ρ δ : Nat → Addr) (Q : Flow → Shared → Prop) (E : Value → Shared → Prop), MSs b env.kindOf x → At c d loc T env A s ρ δ → Kxs c env s ρ δ T T' loc' r E → wpAny (model c.prog c.w) A (execs x env) Q E s
section
variable {c : Cx} {d : Nat} {loc loc' loc1 : Loc} {T T1 T2 T3 : Hp} {env : Env} {A : Around} {s : Shared} {ρ δ ρ' δ' : Nat → Addr} {h' : Heap} {t' r : Nat} {E : Value → Shared → Prop}
theorem Kx.go (k : Kx c s ρ δ T T2 r E) (g : Go c No ρ δ T.n s.heap ρ' δ' T1.n h') : Kx c (Sh s h' t') ρ' δ' T1 T2 r E := fun ρ2 δ2 h2 t2 g2 hr2 tk => k ρ2 δ2 h2 t2 (g.trans g2) hr2 (tk.back g.live)
theorem Kxs.go (k : Kxs c env s ρ δ T T2 loc r E) (g : Go c (Own env) ρ δ T.n s.heap ρ' δ' T1.n h') : Kxs c env (Sh s h' t') ρ' δ' T1 T2 loc r E := fun ρ2 δ2 h2 t2 g2 hr2 fr tk => k ρ2 δ2 h2 t2 (g.trans g2) hr2 fr (tk.back g.live)
theorem Kxs.ev (k : Kxs c env s ρ δ T T2 loc r E) (a : At c d loc T env A s ρ δ) : Kx c s ρ δ T T2 r E := fun ρ2 δ2 h2 t2 g2 hr2 tk => k ρ2 δ2 h2 t2 g2.any hr2 (a.fr.go g2) tk.any
end
section
variable {c : Cx} {d : Nat} {loc loc' loc1 loc2 : Loc} {T T1 T2 T3 : Hp} {v : AV} {vs : List AV} {e o : PE} {l : PEs} {r : Nat} {st : PS} {b b2 : PSs}
theorem XE_meth (ok : Ok c) {m q C f : Nat} {fs : List (Nat × AV)} {ci : CI} (e1 : Ev c o d loc T (.ref q) T1) (ho : T1.get q = some (.inst C fs)) (hc : lk c.G.cls C = some ci) (hm : lk ci.meths m = some f) (hnf : lk fs m = none) (e2 : Evs c l d loc T1 vs T2) (e3 : XCa c f (.ref q :: vs) d T2 r T3) : XEv c (.meth o m l) d loc T r T3 := by
 rintro _ env A s ρ δ Q E ⟨o', l', ap, p, rfl, mo, ns, ms, hl, hlen⟩ a' ct
 have P := MEs.plain (env := env) (pos := p) ms
 have CO := ok.cls C ci hc
 obtain ⟨m1, m2, m3, m4⟩ := CO.meths _ _ hm
 refine wp_meth ns ms hl hlen (e1 _ env A s ρ δ _ E mo a' fun ρ1 δ1 h' t1 va g1 hr1 vr1 pl => ?_)
 rw [vr1.2]
 obtain ⟨es, k, I, F⟩ := InstAt_of (hr1.obj q _ ho).2
 have sh : shadowIn (some (dictOf es k)) (nmS m) = some false := by
  unfold shadowIn
  dsimp only
  rw [(lookIn_fs (k := k) (a := m) F).2 hnf]; rfl
 refine method_fn (s := Sh s h' t1) (hr1.k ok) I CO.ga CO.hk m1 m2 sh ?_
 refine callWith_of (by rw [P.1]; rfl) (keeps_K m3) (wp_args ms (e2 _ env A (Sh s h' t1) ρ1 δ1 _ E p ms (a'.go g1 hr1) fun ρ2 δ2 h2 t2 vals g2 hr2 vr2 => ⟨hr2.k ok, wpAny_call ?_⟩))
 exact e3 A (Sh s h2 t2) ρ2 δ2 _ _ ⟨g2.vr (a := .ref q) ⟨vr1.1, rfl⟩, vr2⟩ hr2 a'.ro (a'.fl (g1.trans g2)) (Kx.go (t' := t2) ct (g1.trans g2))
theorem XS_asg {x : Nat} (e1 : XEv c e d loc T r T1) : XSt c (.asg x e) d loc T loc r T1 := by
 rintro _ env A s ρ δ Q E ⟨np, e', p, rfl, me, nc, mk⟩ a ct
 exact wpAny_Assign_Name (e1 _ env A s ρ δ _ E me a (ct.ev a)) (nc.elim swaps_no fun h => swaps_cell h)
theorem XS_if {t : PE} (w : Bool) (e1 : Tr c t d loc T w T1) (e2 : XEx c (cond w b b2) d loc T1 loc' r T2) : XSt c (.ite t b b2) d loc T loc' r T2 := by
 rintro _ env A s ρ δ Q E ⟨t', b', b2', p, rfl, me, m1, m2⟩ a ct
 refine wpAny_If (e1 _ env A s ρ δ _ E me a fun ρ1 δ1 h' t1 g1 hr1 => ?_)
 cases w with
 | true => exact e2 _ env A _ ρ1 δ1 Q E m1 (a.go g1 hr1) (Kxs.go (t' := t1) ct g1.any)
 | false => exact e2 _ env A _ ρ1 δ1 Q E m2 (a.go g1 hr1) (Kxs.go (t' := t1) ct g1.any)
theorem XX_head (e1 : XSt c st d loc T loc' r T1) : XEx c (.cons st b) d loc T loc' r T1 := by
 rintro _ env A s ρ δ Q E ⟨x, l, rfl, m1, m2⟩ a ct
 exact wpAny_execs_cons (e1 _ env A s ρ δ _ E m1 a ct)
theorem XX_next (e1 : St c st d loc T (.nxt loc1) T1) (e2 : XEx c b d loc1 T1 loc' r T2) : XEx c (.cons st b) d loc T loc' r T2 := by
 rintro _ env A s ρ δ Q E ⟨x, l, rfl, m1, m2⟩ a ct
 exact wpAny_execs_cons (e1 _ env A s ρ δ _ E m1 a fun ρ1 δ1 h' t1 g rr fr => e2 _ env A (Sh s h' t1) ρ1 δ1 Q E m2 ⟨fr, rr, a.ro, a.fgo g⟩ (Kxs.go ct g))
end
end Mine
end
section
open PySem PySem.W PyProof.Rows
namespace Mine
section
variable {c : Cx} {d : Nat} {loc loc' : Loc} {T T1 T2 : Hp} {args : List AV} {r C : Nat} {fs : List (Nat × AV)}
theorem XC_fun (ok : Ok c) {a : Nat} {fi : FI} {l : Loc} (hfi : lk c.G.fns a = some fi) (hl : binds fi.params args (fi.dfl.drop (args.length - (fi.params.length - fi.dfl.length))) (fi.params.length - fi.dfl.length) = some l) (h1r : 1 ≤ r) (hget : T1.get r = some (.exc C fs)) (e : XEx c fi.body d l T loc' r T1) : XCa c a args (d + 1) T r T1 := by
 intro A s ρ δ R vals va hr ro fm ct
 refine fn_in ok hfi hl va hr ro fm fun body env hh tk ms at' keep off ⟨L, hL⟩ => e body env _ (Sh s hh tk) ρ δ _ _ ms at' ?_
 have g0 : ∀ {X : Addr → Prop}, Go c X ρ δ T.n s.heap ρ δ T.n hh := Go.of_keeps keep
 have lv : ∀ b, Live s.heap b → Live hh b := fun b ⟨o, q⟩ => ⟨o, keep b o q⟩
 intro ρ' δ' h'' t' g rr ff tb
 obtain ⟨e0, fl, fm', q0⟩ := at'.fm
 have lt : r < T1.n := (rr.obj r _ hget).1
 rw [hL] at tb
 unfold leaving
 refine wpAny_bind (seatN (h0 := hh) (s := Sh s h'' t') rr (fm'.go g) q0 hL g.live (fun t lo z => (lo.2.2 r h1r lt).1 z.symm) tb fun h3 n3 tb3 => ?_)
 have r3 := n3.hr rr h1r hget
 refine flightN (h0 := hh) (T := T1) (s := Sh s h3 t') (F := none) tb3 fun h4 n4 tb4 => ?_
 have r4 := n4.hr r3 h1r hget
 have nn := n3.trans n4
 exact ct ρ' δ' h4 t' (Go.late ((g0.trans g).weak off) ((nn.go h1r lt).weak fun b _ z => dead_back lv z)) r4 (.inr (.inl (tb4.back lv)))
end
end Mine
end
section
open PySem PySem.W PyProof.Rows
namespace Mine
section
variable {M : Model} {A : Around} {E : Value → Shared → Prop} {env : Env} {h : Heap} {g : Array GenState} {d : Drawn} {t : Nat} {os : OsState}
variable {nm q : Str} {C N : Addr} {bs bm : List Value} {hdct : Bool} {sn : List Str} {sub : List Value} {ab : Bool} {col : Option Bool} {dd : Option Addr} {k0 k1 k2 k3 k5 : Option Value} {newId : String}
theorem x_raised {e Dd ta : Addr} {Q : Flow → Shared → Prop} (hC : h.get? C = some (excClassObj nm q C N bs bm hdct sn sub ab col dd k0 k1 k2 k3 k5 newId)) (hB : bm.contains (.type "BaseException") = true) (hh : A.handled = none)
  (he : h.get? e = some ⟨.ref C, some Dd, .fields #[.ref ta, .none, .none, .none, .bool false, .none], #[]⟩) (hE : E (.ref e) ⟨h, g, d, t, os⟩) :
  wpAny M A (raiseStmt env (some (pure (.ref e))) none) Q E ⟨h, g, d, t, os⟩ := by
 have hcB : (Value.ref C :: bm).contains (.type "BaseException") = true := by rw [List.contains_cons, hB, Bool.or_true]
 unfold raiseStmt
 repeat (first | with_reducible refine wpAny_loadPart_at he ?_ | with_reducible refine wpAny_loadPart_at hC ?_ | (with_reducible refine wpAny_isSubtype_exc hC ?_; rw [hcB]) | wp_step)
 exact wpAny_raiseNew_none hh hE
end
section
variable {c : Cx} {d : Nat} {loc : Loc} {T T1 : Hp} {l : PEs} {w p : AV} {C D x : Nat}
theorem XS_raise (ok : Ok c) (xo : ExOk c D C) (hx : lk c.G.glb x = some (.obj C)) (e1 : Evs c l d loc T [w, p] T1) : XSt c (.raise (.call (.glb x) l)) d loc T loc T1.n (hnew T1 (.exc C [(kWord, w), (kPlace, p)])) := by
 rintro _ env A s ρ δ Q E ⟨e', ps, rfl, ⟨f', l', cp, rfl, ⟨y, np, rfl⟩, mf, ms⟩⟩ a' ct
 have P := MEs.plain (env := env) (pos := cp) ms
 obtain ⟨fI, PP, xc, xt⟩ := xo
 rw [arm_exec_Raise]
 refine wpAny_bind (wpAny_standAt ?_)
 show wpAny _ _ (raiseStmt env (some (eval (.Call (.Name y np) l' [] cp) env >>= fun v => standAt ps >>= fun _ => pure v)) none) _ _ _
 have key : ∀ {Q' : Value → Shared → Prop}, (∀ v s', wpAny (model c.prog c.w) A (raiseStmt env (some (pure v)) none) Q E s' → Q' v s') → wpAny (model c.prog c.w) A (eval (.Call (.Name y np) l' [] cp) env >>= fun v => standAt ps >>= fun _ => pure v) Q' E s := by
  intro Q' hQ
  refine wpAny_bind (wpAny_Call_NameR (R_glb ok hx _ env A s ρ δ _ E mf a' fun ρ1 δ1 h' t1 fv g1 hr1 vr1 => ?_))
  rw [vr1]
  refine callWith_of (by rw [P.1]; rfl) (keeps_K xc.b23) (wp_args ms (e1 _ env A (Sh s h' t1) ρ1 δ1 _ E cp ms (a'.go g1 hr1) fun ρ2 δ2 hh t2 vals g2 hr2 va => ⟨hr2.k ok, ?_⟩))
  have X := hr2.k ok
  obtain ⟨wv, pv, rfl, vw, vp⟩ := vr2 va
  refine x_call (X _ _ xc.b1) xc.b2 xc.b3 xc.b4 (looks_findIn X xc.b15) (looks_typeIn X xc.b16) (fun h3 e3 md => ?_) (by rw [sizeLine_eq]; exact lb rfl)
  obtain ⟨ta, m1, m2, m3⟩ := md.there
  have kb3 : ∀ b o, c.hb.get? b = some o → h3.get? b = some o := fun b o z => md.keeps b o (hr2.base b o z)
  refine x_init_call ok xc xt kb3 (by have := a'.ro.1; rw [depth_under_make]; omega) vw vp (hr2.dead (s := Sh s hh t2) md.new) m1 fun h4 Dd es k ta' t4 k4 dD e4 d4 f4 => ⟨rfl, ?_⟩
  have kp : ∀ b o, hh.get? b = some o → h4.get? b = some o := fun b o z => k4 b o (fun y => by rw [y, md.new] at z; cases z) (md.keeps b o z)
  have dD' : hh.get? Dd = none := dead_back (fun b ⟨o, z⟩ => ⟨o, md.keeps b o z⟩) dD
  obtain ⟨r1, gg⟩ := hr2.grow (X := No) (ao := .exc C [(kWord, w), (kPlace, p)]) (a := e3) (d := Dd) (get_hnew T1 _) md.new dD' ⟨_, e4⟩ ⟨_, d4⟩ kp ⟨⟨_, _, e4, rfl, rfl, rfl⟩, es, k, d4, f4.up (Nat.le_succ _) fun i z => ext_lt z⟩
  refine wpAny_bind (wpAny_standAt (wpAny_pure (hQ _ _ ?_)))
  have X4 : c.K.In h4 := X.keeps kp
  have ee : ext ρ2 T1.n e3 T1.n = e3 := ext_at ..
  refine x_raised (X4 _ _ xc.b1) xc.b5 a'.ro.2.2 e4 ?_
  have := ct (ext ρ2 T1.n e3) (ext δ2 T1.n Dd) h4 t4 (g1.trans (g2.trans gg)).any r1 (a'.fr.go (g1.trans (g2.trans gg))) (.inl ⟨_, _, by rw [ee]; exact e4, rfl, rfl⟩)
  rwa [ee] at this
 unfold raiseStmt
 refine wpAny_bind (key fun v s' z => ?_)
 unfold raiseStmt at z
 exact z
end
end Mine
end
section
open PySem PySem.W PyProof.Rows
namespace Mine
structure Xs (c : Cx) (env : Env) (h0 : Heap) (ρ0 δ0 : Nat → Addr) (n0 : Nat) (loc : Loc) (r C : Nat) (fs : List (Nat × AV)) (T : Hp) (ρ δ : Nat → Addr) (h : Heap) : Prop where
 go : Go c (Own env) ρ0 δ0 n0 h0 ρ δ T.n h
 hr : HR c ρ δ T T.n h
 fr : FR c ρ δ T.n loc env h
 lv : ∀ a, Own env a → Live h0 a
 get : T.get r = some (.exc C fs)
 r1 : 1 ≤ r
section
variable {c : Cx} {env : Env} {h0 h h' : Heap} {ρ0 δ0 ρ δ : Nat → Addr} {n0 n : Nat} {loc loc' : Loc} {r C : Nat} {fs : List (Nat × AV)} {T : Hp}
theorem Xs.lt (x : Xs c env h0 ρ0 δ0 n0 loc r C fs T ρ δ h) : r < T.n := (x.hr.obj r _ x.get).1
theorem Xs.nt (x : Xs c env h0 ρ0 δ0 n0 loc r C fs T ρ δ h) (n : Nt c ρ δ T.n (ρ r) h0 h h') : Xs c env h0 ρ0 δ0 n0 loc r C fs T ρ δ h' :=
 ⟨x.go.late (n.go x.r1 x.lt), n.hr x.hr x.r1 x.get, x.fr.goX (n.go x.r1 x.lt) (fun a o z => by obtain ⟨ob, q⟩ := x.lv a o; rw [q] at z; cases z), x.lv, x.get, x.r1⟩
theorem FR.own_live (f : FR c ρ δ n loc env h) : ∀ a, Own env a → Live h a := by
 rintro a (rfl | ⟨x, e⟩)
 ·obtain ⟨m, q, _⟩ := f.ns; exact live_ns q
 ·exact (f.offC x a e).2.2
theorem FR.re {m' : Str → Option Value} (f : FR c ρ δ n loc env h) (hn : h'.Ns env.locals m') (hs : Heap.SameBut env.locals h h') (hl : ∀ y w, lk loc' y = some w → env.kindOf (nmS y) = some .local → ∃ val, m' (nmS y) = some val ∧ VR n ρ w val) (hc : ∀ y w, lk loc' y = some w → env.kindOf (nmS y) ≠ some .local → lk loc y = some w) : FR c ρ δ n loc' env h' := by
 refine ⟨f.kind, f.glo, f.bui, f.offL, f.hbL, fun y a e => ?_, f.hbC, f.inj, ⟨m', hn, hl⟩, fun y w e k => ?_, fun y k => ?_⟩
 ·have := f.offC y a e
  exact ⟨this.1, this.2.1, let ⟨o, e⟩ := this.2.2; ⟨o, hs.extBut _ o this.2.1 e⟩⟩
 ·obtain ⟨a, u, h3, h4, h5⟩ := f.cel y w (hc y w e (by rcases k with k | k <;> (rw [k]; decide))) k
  exact ⟨a, u, h3, h4.sameBut hs (f.offC _ a h3).2.1, h5⟩
 ·obtain ⟨a, v, q, i⟩ := f.celE y k
  exact ⟨a, v, q, i.sameBut hs (f.offC _ a q).2.1⟩
theorem Tba.same {e L : Addr} {v : Value} (tb : Tba c ρ δ n h0 h e v) (hs : Heap.SameBut L h h') (hL : Dl h L) : Tba c ρ δ n h0 h' e v := by
 obtain ⟨o, vs, t, oT, ts, a1, a2, a3, a4, a5, a6, a7, a8⟩ := tb
 have ne : ∀ {b : Addr} {ob : Obj} {ws : Array Value}, h.get? b = some ob → ob.data = .fields ws → b ≠ L := fun q1 q2 z => by
  obtain ⟨o', es, k, q3, q4⟩ := hL
  rw [← z, q1] at q3; cases q3; rw [q2] at q4; cases q4
 exact ⟨o, vs, t, oT, ts, (hs.2 e (ne a1 a2)).trans a1, a2, a3, a4, (hs.2 t (ne a5 a6)).trans a5, a6, a7, a8⟩
end
section
variable {c : Cx} {env : Env} {A : Around} {s : Shared} {E : Value → Shared → Prop} {h0 : Heap} {ρ0 δ0 ρ δ : Nat → Addr} {n0 n : Nat} {loc loc' : Loc} {r C : Nat} {fs : List (Nat × AV)} {T : Hp} {Q : Unit → Shared → Prop} {v w : Value}
theorem Xs.note {M : Model} (x : Xs c env h0 ρ0 δ0 n0 loc r C fs T ρ δ s.heap) (fm : ∃ e l, Fm c ρ δ T.n A s.heap (e :: l) ∧ e.frame = env.frame) (tk : Tbk c ρ δ T.n h0 s.heap (ρ r) env.frame)
  (k : ∀ h' L, env.frame = some L → Xs c env h0 ρ0 δ0 n0 loc r C fs T ρ δ h' → Tba c ρ δ T.n h0 h' (ρ r) (rawInt L) → Q () { s with heap := h' }) : wpAny M A (noteFrame (.ref (ρ r)) env) Q E s := by
 obtain ⟨e, l, f, q⟩ := fm
 obtain ⟨_, L, hL, _⟩ := f.ok e (.head _)
 have hf : env.frame = some L := q.symm.trans hL
 rw [hf] at tk
 exact seatN x.hr f q hf x.go.live (fun t lo z => (lo.2.2 r x.r1 x.lt).1 z.symm) tk fun h' nt tb => k h' L hf (x.nt nt) tb
theorem Xs.fly {M : Model} {F : Option Addr} (x : Xs c env h0 ρ0 δ0 n0 loc r C fs T ρ δ s.heap) (tb : Tba c ρ δ T.n h0 s.heap (ρ r) v)
  (k : ∀ h', Xs c env h0 ρ0 δ0 n0 loc r C fs T ρ δ h' → Tba c ρ δ T.n h0 h' (ρ r) (F.elim .none fun f => rawInt f) → Q () { s with heap := h' }) : wpAny M A (setFlight (.ref (ρ r)) F) Q E s :=
 flightN (T := T) tb fun h' nt tb => k h' (x.nt nt) tb
theorem Xs.put {y : Nat} {av : AV} {val : Value} (x : Xs c env h0 ρ0 δ0 n0 loc r C fs T ρ δ s.heap) (tb : Tba c ρ δ T.n h0 s.heap (ρ r) w) (hk : env.kindOf (nmS y) = some .local) (vr : VR T.n ρ av val)
  (k : ∀ h' t', Xs c env h0 ρ0 δ0 n0 (pt loc y av) r C fs T ρ δ h' → Tba c ρ δ T.n h0 h' (ρ r) w → Q () (Sh s h' t')) : wpAny (model c.prog c.w) A (storeName env (nmS y) val) Q E s := by
 obtain ⟨m, h1, h2⟩ := x.fr.ns
 refine wpAny_storeName_local hk h1 (fun h' hn hs => k h' _ ⟨x.go.trans (Go.of_ext hs.extBut (fun _ => live_ns hn) (fun _ => dl_ns hn) (.inl rfl)), x.hr.of_ext hs.extBut x.fr.offL x.fr.hbL, x.fr.re hn hs ?_ ?_, x.lv, x.get, x.r1⟩ (tb.same hs (dl_ns h1))) (by rw [x.fr.kind]; rfl)
 ·intro z u e q
  rw [lk_pt] at e
  by_cases hy : z = y
  ·subst hy; rw [if_pos rfl] at e; cases e; exact ⟨val, if_pos rfl, vr⟩
  ·rw [if_neg hy] at e
   obtain ⟨u, h3, h4⟩ := h2 z _ e q
   exact ⟨u, by rw [if_neg fun z => hy (nmS_inj z)]; exact h3, h4⟩
 ·intro z u e q
  rw [lk_pt] at e
  by_cases hy : z = y
  ·subst hy; exact absurd hk q
  ·rw [if_neg hy] at e; exact e
theorem drop_snd {y : Nat} {pos : Pos} (fr : FR c ρ δ n loc env s.heap) (hr : HR c ρ δ T n s.heap) (hk : env.kindOf (nmS y) = some .local)
  (k : ∀ h' t', Heap.SameBut env.locals s.heap h' → Go c (Own env) ρ δ n s.heap ρ δ n h' → HR c ρ δ T n h' → FR c ρ δ n (rm [y] loc) env h' → Q () (Sh s h' t')) : wpAny (model c.prog c.w) A (do bindName env (nmS y) .none; unbindBehindTheSuite env (nmS y) pos) Q E s := by
 obtain ⟨m, h1, h2⟩ := fr.ns
 refine wpAny_nameGoes_keeps hk h1 (by rw [fr.kind]; rfl) fun h' v hn hs => k h' _ hs (Go.of_ext hs.extBut (fun _ => live_ns hn) (fun _ => dl_ns hn) (.inl rfl)) (hr.of_ext hs.extBut fr.offL fr.hbL) (fr.re hn hs ?_ ?_)
 ·intro z u e q
  obtain ⟨e1, e2⟩ := lk_rm e
  have hy : z ≠ y := fun q => e2 (q ▸ .head _)
  obtain ⟨u, h3, h4⟩ := h2 z _ e1 q
  exact ⟨u, by rw [if_neg fun z => hy (nmS_inj z)]; exact h3, h4⟩
 ·intro z u e q
  exact (lk_rm e).1
end
section
variable {c : Cx} {env : Env} {A : Around} {s : Shared} {Q E : Value → Shared → Prop} {ρ δ : Nat → Addr} {n : Nat} {loc : Loc} {T : Hp} {v : AV}
theorem loc_leaf {x : Nat} {p : Pos} (fr : FR c ρ δ n loc env s.heap) (hl : lk loc x = some v) (hk : own? (env.kindOf (nmS x)) = true) (hd : isDbg (nmS x) = false) (k : ∀ val, VR n ρ v val → Q val s) : wpAny (model c.prog c.w) A (eval (.Name (nmS x) p) env) Q E s := by
 refine wpAny_Name ?_ (dbg_of hd).1
 rcases own_or hk with q | q | q
 ·obtain ⟨m, h1, h2⟩ := fr.ns
  obtain ⟨val, h3, h4⟩ := h2 x v hl q
  exact wpAny_loadName_local fr.kind q h1 h3 (k _ h4)
 ·obtain ⟨b, val, h1, h2, h3⟩ := fr.cel x v hl (.inl q)
  exact wpAny_loadName_cell fr.kind q h1 h2 (k _ h3)
 ·obtain ⟨b, val, h1, h2, h3⟩ := fr.cel x v hl (.inr q)
  exact wpAny_loadName_free fr.kind q h1 h2 (k _ h3) (dbg_of hd).2
theorem glb_leaf (ok : Ok c) {x : Nat} {p : Pos} (fr : FR c ρ δ n loc env s.heap) (hr : HR c ρ δ T n s.heap) (hl : lk c.G.glb x = some v) (hk : env.kindOf (nmS x) = some .globalImplicit) (hd : isDbg (nmS x) = false) (k : ∀ val, VR n ρ v val → Q val s) : wpAny (model c.prog c.w) A (eval (.Name (nmS x) p) env) Q E s := by
 obtain ⟨val, vr, hg⟩ := ok.glb x v hl
 obtain ⟨mg, mb, h1, h2, h3⟩ := ok.nss
 have q : Q val s := k _ (vr.up (Nat.zero_le _) fun i z => absurd z (Nat.not_lt_zero i))
 refine Calls.Name_function_global fr.kind hk ?_ (dbg_of hd).1
 rcases hg with hg | ⟨hg, hb, hn⟩
 ·exact Calls.loadGlobal_global (by rw [fr.glo]; exact h1.keeps hr.base) (mg_of ok.k h1 hg) q
 ·exact Calls.loadGlobal_builtin (by rw [fr.glo]; exact h1.keeps hr.base) (mg_none_of ok.k h1 hg) (by rw [fr.bui]; exact h2.keeps hr.base) ((h3 _ hn).trans hb) q
end
theorem bx_slot : Slot "ValueError" "__getattribute__" "BaseException.__getattribute__" := .of (owner := "BaseException") (n := "__getattribute__") (by rw [typeLookup_type, builtinLookup_eq_fast]; kernel_rfl) (by decide +kernel) (by decide +kernel) (by decide +kernel)
 (by first | exact .inl (by decide +kernel) | exact .inr (by decide +kernel)) (by rw [isSubtype_type]; kernel_rfl)
theorem x_get {prog : Program} {w : World} {A : Around} {Q E : Value → Shared → Prop} {s : Shared} {K : Frag} {x C : Addr} {ox : Obj} {od : Option Obj} {name : Str} {expr : Bool} {v : Value} (X : K.In s.heap) (I : InstAt s.heap x ox C od) (hga : findIn K (.ref C) "__getattribute__" = some (some (.builtin "BaseException.__getattribute__"))) (hgh : findIn K (.ref C) "__getattr__" = some none) (hb : mroIn K C (.type "BaseException") = some true)
  (hf : findObj K C od name = some (.value v)) (hh : handedIn v = true) (h : Q v { s with toks := s.toks + 1 }) : wpAny (model prog w) A (getAttr (.ref x) name expr) Q E s := by
 obtain ⟨hp, g, d, t, os⟩ := s
 have L0 := I.type (M := model prog w)
 have L1 := looks_findIn (M := model prog w) X hga
 have L2 := looks_findIn (M := model prog w) X hgh
 have L3 := looks_find (M := model prog w) X I hf
 have sub : Looks (model prog w) hp (isInstance (.ref x) (.type "BaseException")) true := L0.andThen (looks_mroIn X hb)
 have hx2 : (Value.builtin "BaseException.__getattribute__" == Value.builtin "object.__getattribute__") = false := by decide +kernel
 have hx1 : (onTheHeap (Value.ref C) && Value.builtin "BaseException.__getattribute__" == Value.builtin "object.__getattribute__") = false := by rw [hx2]; rfl
 have hx0 : (expr && onTheHeap (Value.builtin "BaseException.__getattribute__")) = false := by cases expr <;> rfl
 have hk : builtinKind "BaseException.__getattribute__" = some .slot := by decide +kernel
 have hsplit : splitId "BaseException.__getattribute__" = some ("BaseException", "__getattribute__") := by decide +kernel
 unfold getAttr getAttrBy
 refine wpAny_bind (wpAny_mkText (wpAny_holding (wpAny_bind (L0.at (wpAny_bind (L1.at ?_))))))
 dsimp only
 rw [if_neg (by rw [hx1]; exact Bool.false_ne_true)]
 unfold getAttrByItsOwn
 refine wpAny_bind ?_
 show wpAny _ _ (typeLookup (.ref C) "__getattr__") _ _ _
 refine L2.at ?_
 refine wpAny_bind (wpAny_attempt (wpAny_holding ?_))
 unfold callGetattribute
 rw [if_neg (by rw [hx0]; exact Bool.false_ne_true)]
 unfold boundAndCalled
 refine wpAny_bind (wpAny_of_eq (bx_slot.bind _) ?_)
 refine wpAny_call (codeAny_call_builtin bx_slot.plain F.entry_bexc_ga (@check_slot (model prog w) _ _ ⟨hp, g, d, t + 1, os⟩ "BaseException.__getattribute__" "BaseException" "__getattribute__" (.ref x) [.str name t] [] _ hk hsplit sub (F.args_bexc_ga _ _) ?_))
 unfold Builtin.«object.__getattribute__»
 refine wpAny_bind (wpAny_pure ?_)
 refine wpAny_bind (wpAny_pure ?_)
 refine wpAny_bind (L0.at (wpAny_bind (L3.at ?_)))
 refine wpAny_pure ?_
 show wpAny _ _ (handedOut v) _ _ _
 rw [handedOut_of hh]; exact wpAny_pure h
end Mine
end
section
open PySem PySem.W PyProof.Rows
namespace Mine
section
variable {c : Cx} {env : Env} {A : Around} {s : Shared} {E : Value → Shared → Prop} {h0 : Heap} {ρ0 δ0 ρ δ : Nat → Addr} {n0 n : Nat} {loc loc' : Loc} {r C D : Nat} {fs : List (Nat × AV)} {T : Hp} {v : Value}
theorem x_handle (ok : Ok c) (xo : ExOk c D C) {Q : Flow → Shared → Prop} {cl y : Nat} {np hp : Pos} {b₀ : Stmt} {suite : List Stmt} (hcl : lk c.G.glb cl = some (.obj D)) (kcl : env.kindOf (nmS cl) = some .globalImplicit) (dcl : isDbg (nmS cl) = false) (ky : env.kindOf (nmS y) = some .local) (x : Xs c env h0 ρ0 δ0 n0 loc r C fs T ρ δ s.heap) (tb : Tba c ρ δ T.n h0 s.heap (ρ r) v)
  (k : ∀ h' t', Xs c env h0 ρ0 δ0 n0 (pt loc y (.ref r)) r C fs T ρ δ h' → Tba c ρ δ T.n h0 h' (ρ r) .none →
   wpAny (model c.prog c.w) (A.mark (some (.ref (ρ r)))) (execs (b₀ :: suite) env) (fun f s₄ => wpAny (model c.prog c.w) A (do bindName env (nmS y) .none; unbindBehindTheSuite env (nmS y) hp) (fun _ s₅ => Q f s₅) E s₄)
    (AsSuiteRaised (model c.prog c.w) (A.mark (some (.ref (ρ r)))) env (nmS y) hp (notedBy (model c.prog c.w) (A.mark (some (.ref (ρ r)))) env (cameBackBy (model c.prog c.w) A env E))) (Sh s h' t')) :
  wpAny (model c.prog c.w) A (handleBy (.ref (ρ r)) env [.ExceptHandler (some (.Name (nmS cl) np)) (some (nmS y)) (b₀ :: suite) hp]) Q E s := by
 refine wpAny_handleBy_cons (codeAny_handlers_test (glb_leaf ok x.fr x.hr hcl kcl dcl fun val vr => ?_)) (by intro q; cases q)
 cases vr
 have X := x.hr.k ok
 obtain ⟨_, ⟨oe, ws, q1, q2, q3, q4⟩, es, kk, q5, q6⟩ := x.hr.obj r _ x.get
 have LT : Looks (model c.prog c.w) s.heap (typeOf (.ref (ρ r))) (.ref C) := q2 ▸ (Looks.ld q1).andThen .now
 obtain ⟨fI, PP, xc, xt⟩ := xo
 refine (exm_one X LT xc.b24).here ?_
 show codeAny _ (A.mark _) (.handlers _ _ _) _ s
 refine codeAny_handlers_suite_as ?_
 refine x.fly tb (F := none) fun h1 x1 tb1 => ?_
 exact Xs.put (av := .ref r) (s := { s with heap := h1 }) x1 tb1 ky ⟨x1.lt, rfl⟩ fun h2 t2 x2 tb2 => k h2 t2 x2 tb2
end
section
variable {c : Cx} {d : Nat} {loc loc' loc1 : Loc} {T T1 T2 : Hp} {e it : PE} {r C D : Nat} {fs : List (Nat × AV)} {b bb : PSs} {xs : List Nat} {ik : IK} {x w : AV}
theorem S_catch (ok : Ok c) (xo : ExOk c D C) {cl y z : Nat} (hcl : lk c.G.glb cl = some (.obj D)) (e1 : XEx c b d loc T loc1 r T1) (h1r : 1 ≤ r) (hget : T1.get r = some (.exc C fs)) (hw : lk fs kWord = some w) : St c (.try b cl y (.cons (.asg z (.attr (.loc y) kWord)) .nil)) d loc T (.nxt (rm [y] (pt (pt loc1 y (.ref r)) z w))) T1 := by
 rintro _ env A s ρ δ Q E ⟨b', np, h', hp, p, rfl, mb, mh, kcl, dcl, ky⟩ a ct
 obtain ⟨x0, xl, rfl, ⟨xnp, xe, xp, rfl, ⟨o', ap, rfl, ⟨yp, rfl, ky2, kd2⟩, ns⟩, nc, mk⟩, rfl⟩ := mh
 refine wpAny_Try_except (e1 _ env A s ρ δ _ _ mb a fun ρ1 δ1 h1 t1 g1 hr1 fr1 tk1 => ?_)
 have x1 : Xs c env s.heap ρ δ T.n loc1 r C fs T1 ρ1 δ1 h1 := ⟨g1, hr1, fr1, a.fr.own_live, hget, h1r⟩
 refine Xs.note (s := Sh s h1 t1) x1 (a.fgo g1) tk1 fun h2 L hL x2 tb2 => ?_
 refine Xs.fly (s := Sh s h2 t1) x2 tb2 (F := none) fun h3 x3 tb3 => ?_
 refine x_handle ok xo (s := Sh s h3 t1) hcl kcl dcl ky x3 tb3 fun h4 t4 x4 tb4 => ?_
 obtain ⟨_, ⟨oe, ws, q1, q2, q3, q4⟩, es, kk, q5, q6⟩ := x4.hr.obj r _ x4.get
 obtain ⟨val, hl, vr⟩ := (lookIn_fs (k := kk) (a := kWord) q6).1 w hw
 obtain ⟨fI, PP, xc, xt⟩ := id xo
 have hcd := xc.b8
 have hdict := xc.b9
 refine wpAny_execs_cons (wpAny_Assign_Name (wp_Attribute ns (loc_leaf (s := Sh s h4 t4) x4.fr (by rw [lk_pt, if_pos rfl]) ky2 kd2 fun va v1 => ?_)) (nc.elim swaps_no fun h => swaps_cell h))
 rw [v1.2]
 have fw := xc.b20
 rw [← nm_word] at fw
 refine x_get (v := val) (x4.hr.k ok) (⟨q1, q2, by unfold notCls; rw [q4], by rw [q3]; exact q5⟩ : InstAt h4 (ρ1 r) oe C (some (dictOf es kk))) xc.b18 xc.b19 xc.b25 ?_ vr.handed ?_
 ·exact fo_value hcd fw hdict hl
 ·refine store_snd (s := Sh s h4 (t4 + 1)) x4.fr x4.hr vr mk fun h5 t5 g5 r5 f5 => ?_
  refine wpAny_execs_nil ?_
  exact drop_snd (s := Sh s h5 t5) f5 r5 ky fun h6 t6 _ g6 r6 f6 => ct ρ1 δ1 h6 t6 (x4.go.trans (g5.trans g6)) r6 f6
end
theorem lk_drop {l : Loc} {x y : Nat} {w : AV} (ne : Nat.beq x y = false) (h : lk l x = some w) : lk (rm [y] l) x = some w := by
 induction l with
 | nil => exact h
 | cons p l ih =>
  obtain ⟨k, u⟩ := p
  show lk (cond (hasN [y] k) (rm [y] l) ((k, u) :: rm [y] l)) x = some w
  rw [lk_cons] at h
  by_cases q : k = x
  ·subst q
   rw [if_pos rfl] at h
   have : hasN [y] k = false := by
    show cond (Nat.beq y k) true false = false
    have : Nat.beq y k = false := beq_no fun e => by rw [e, Nat.beq_refl] at ne; cases ne
    rw [this]; rfl
   rw [this]
   show lk ((k, u) :: rm [y] l) k = _
   rw [lk_cons, if_pos rfl]; exact h
  ·rw [if_neg q] at h
   cases hasN [y] k with
   | true => exact ih h
   | false =>
    show lk ((k, u) :: rm [y] l) x = _
    rw [lk_cons, if_neg q]; exact ih h
noncomputable def Xg (T : Hp) (r : Nat) : Prop := 1 ≤ r ∧ ∃ C fs, T.get r = some (.exc C fs)
section
variable (c : Cx) (d : Nat) (loc : Loc) (T : Hp)
noncomputable def XEvP (e : PE) (Q : Nat → Hp → Prop) : Prop := ∃ r T', XEv c e d loc T r T' ∧ Xg T' r ∧ Q r T'
noncomputable def XStP (s : PS) (Q : Loc → Nat → Hp → Prop) : Prop := ∃ l r T', XSt c s d loc T l r T' ∧ Xg T' r ∧ Q l r T'
noncomputable def XExP (b : PSs) (Q : Loc → Nat → Hp → Prop) : Prop := ∃ l r T', XEx c b d loc T l r T' ∧ Xg T' r ∧ Q l r T'
end
noncomputable def XCaP (c : Cx) (T : Hp) (a : Nat) (args : List AV) (d : Nat) (Q : Nat → Hp → Prop) : Prop := ∃ r T', XCa c a args d T r T' ∧ Xg T' r ∧ Q r T'
noncomputable def RsP (vs : List AV) (T : Hp) (K : AV → AV → Prop) : Prop := ∃ w p, vs = [w, p] ∧ 1 ≤ T.n ∧ K w p
section
variable {c : Cx} {d : Nat} {loc l1 : Loc} {T T' : Hp} {Q : Nat → Hp → Prop} {QL : Loc → Nat → Hp → Prop} {N : Loc → Hp → Prop} {R : AV → Hp → Prop} {e o it tst : PE} {l : PEs} {b b2 bb : PSs} {s : PS} {x m cl y z C D r f : Nat} {xs : List Nat} {ik : IK} {w p v : AV} {fs : List (Nat × AV)}
theorem k_rs {KP : AV → AV → Prop} (h : 1 ≤ T.n) (q : KP w p) : RsP [w, p] T KP := ⟨_, _, rfl, h, q⟩
theorem XX_consP (h : StP c d loc T s (fun l T1 => XExP c d l T1 b QL) (fun _ _ => False)) : XExP c d loc T (.cons s b) QL := by
 obtain ⟨_, _, h1, _, _, _, h2, g, q⟩ | ⟨_, _, _, f⟩ := h
 ·exact ⟨_, _, _, XX_next h1 h2, g, q⟩
 ·exact f.elim
theorem XX_headP (h : XStP c d loc T s QL) : XExP c d loc T (.cons s b) QL := by
 obtain ⟨_, _, _, h1, q⟩ := h
 exact ⟨_, _, _, XX_head h1, q⟩
theorem XS_asgP (h : XEvP c d loc T e (QL loc)) : XStP c d loc T (.asg x e) QL := by
 obtain ⟨_, _, h1, q⟩ := h
 exact ⟨_, _, _, XS_asg h1, q⟩
theorem XS_ifP (h : TrP c d loc T tst fun w T1 => XExP c d loc T1 (cond w b b2) QL) : XStP c d loc T (.ite tst b b2) QL := by
 obtain ⟨_, _, h1, _, _, _, h2, q⟩ := h
 exact ⟨_, _, _, XS_if _ h1 h2, q⟩
theorem XS_raiseP (ok : Ok c) (xo : ExOk c D C) (hx : lk c.G.glb x = some (.obj C)) (h : EsP c d loc T l fun vs T1 => RsP vs T1 fun w p => QL loc T1.n (hnew T1 (.exc C [(kWord, w), (kPlace, p)]))) : XStP c d loc T (.raise (.call (.glb x) l)) QL := by
 obtain ⟨_, _, h1, _, _, rfl, h2, q⟩ := h
 exact ⟨_, _, _, XS_raise ok xo hx h1, ⟨h2, _, _, get_new _ _⟩, q⟩
theorem XE_methP (ok : Ok c) (h : EvP c d loc T o fun v T1 => MtP c T1 v m fun r f => EsP c d loc T1 l fun vs T2 => XCaP c T2 f (.ref r :: vs) d Q) : XEvP c d loc T (.meth o m l) Q := by
 obtain ⟨_, _, h1, r, C, fs, ci, f, rfl, h2, h3, h4, h5, _, _, h6, _, _, h7, q⟩ := h
 exact ⟨_, _, XE_meth ok h1 h2 h3 h4 h5 h6 h7, q⟩
theorem XE_lmP (ok : Ok c) (h0 : lk loc x = some (.ref r)) (h : T.get r = some (.inst C fs)) (h2 : mth c.G C m = some f) (h4 : lk fs m = none) (q : EsP c d loc T l fun vs T2 => XCaP c T2 f (.ref r :: vs) d Q) : XEvP c d loc T (.meth (.loc x) m l) Q :=
 XE_methP ok (E_loc h0 (k_mt2 h h2 h4 q))
theorem S_catchP (ok : Ok c) (xo : ExOk c D C) (hcl : lk c.G.glb cl = some (.obj D)) (h : XExP c d loc T b fun l r T1 => ∃ fs w, T1.get r = some (.exc C fs) ∧ lk fs kWord = some w ∧ N (rm [y] (pt (pt l y (.ref r)) z w)) T1) : StP c d loc T (.try b cl y (.cons (.asg z (.attr (.loc y) kWord)) .nil)) N R := by
 obtain ⟨_, _, _, h1, ⟨g1, _⟩, fs, w, h2, h3, q⟩ := h
 exact .inl ⟨_, _, S_catch ok xo hcl h1 g1 h2 h3, q⟩
theorem XC_funL (ok : Ok c) {args : List AV} {fi : FI} {l : Loc} (hfi : lk c.G.fns f = some fi) (hl : binds fi.params args (fi.dfl.drop (args.length - (fi.params.length - fi.dfl.length))) (fi.params.length - fi.dfl.length) = some l) (h : ∀ l' : Loc, (∀ x v, lk l x = some v → lk l' x = some v) → ∀ Q' : Nat → Hp → Prop, (∀ u T', Q u T' → Q' u T') → XExP c d l' T fi.body (fun _ => Q')) : XCaP c T f args (d + 1) Q := by
 obtain ⟨_, _, _, h1, ⟨g1, _, _, g2⟩, q⟩ := h l (fun _ _ e => e) Q fun _ _ q => q
 exact ⟨_, _, XC_fun ok hfi hl g1 g2 h1, ⟨g1, _, _, g2⟩, q⟩
theorem XCaP.imp {args : List AV} {P : Nat → Hp → Prop} (h : XCaP c T f args d Q) (k : ∀ r T', Q r T' → P r T') : XCaP c T f args d P := let ⟨r, T', h, g, q⟩ := h; ⟨r, T', h, g, k r T' q⟩
end
end Mine
end
section

end
section
open PySem PySem.W PyProof.Rows
namespace Mine
section
variable {c : Cx} {d : Nat} {loc : Loc} {T T1 T2 T3 : Hp} {a b x : AV} {e e2 e3 : PE} {t : Bool} {QB : Bool → Hp → Prop}
theorem T_cmp2 {o1 o2 : Cop} (h1 : Ev c e d loc T a T1) (h2 : Ev c e2 d loc T1 b T2) (hb : Cm c o1 a b T2 true) (h3 : Ev c e3 d loc T2 x T3) (hc : Cm c o2 b x T3 t) : Tr c (.cmp2 e o1 e2 o2 e3) d loc T t T3 := by
 rintro _ env A s ρ δ Q E ⟨a', b', z', p, rfl, ma, mb, mz, m1, m2⟩ at' ct
 refine wp_tcmp2 m2 (h1 _ env A s ρ δ _ E ma at' fun ρ1 δ1 s1 t1 va g1 hr1 vr1 => ?_)
 refine h2 _ env A (Sh s s1 t1) ρ1 δ1 _ E mb (at'.go g1 hr1) fun ρ2 δ2 s2 t2 vb g2 hr2 vr2 => ?_
 refine hb d A (Sh s s2 t2) ρ2 δ2 va vb _ E hr2 at'.ro (g2.vr vr1) vr2 fun s3 t3 g3 r3 => truthy_bool ?_
 rw [if_pos rfl]
 refine h3 _ env A (Sh s s3 t3) ρ2 δ2 _ E mz (at'.go (g1.trans (g2.trans g3)) r3) fun ρ4 δ4 s4 t4 vz g4 hr4 vr4 => ?_
 exact hc d A (Sh s s4 t4) ρ4 δ4 vb vz _ E hr4 at'.ro (g4.vr vr2) vr4 fun s5 t5 g5 r5 => truthy_bool (ct ρ4 δ4 s5 t5 (g1.trans (g2.trans (g3.trans (g4.trans g5)))) r5)
theorem T_cmp2P {o1 o2 : Cop} (h : EvP c d loc T e fun a T1 => EvP c d loc T1 e2 fun b T2 => CmP c T2 o1 a b fun t => YeP t true (EvP c d loc T2 e3 fun x T3 => CmP c T3 o2 b x fun t => QB t T3)) : TrP c d loc T (.cmp2 e o1 e2 o2 e3) QB := by
 obtain ⟨_, _, h1, _, _, h2, _, h3, rfl, _, _, h4, _, h5, q⟩ := h
 exact ⟨_, _, T_cmp2 h1 h2 h3 h4 h5, q⟩
theorem B_range2 {i j : Int} : Bc c (.typ .range) [.int i, .int j] d T (.ref T.n) (hnew T (.range i j)) := by
 intro A s ρ δ fv vals Q E rf va hr ro ct
 obtain ⟨v, u, rfl, ⟨t, rfl⟩, ⟨t2, rfl⟩⟩ := vr2 va
 rw [rf]
 exact call_range_2 (ct.push (t := s.toks + 1) hr rfl ⟨_, _, _, Heap.get?_push_size _ rfl⟩)
theorem B_intB {z : Bool} : Bc c (.typ .int) [.bool z] d T (.int (cond z 1 0)) T := by
 intro A s ρ δ fv vals Q E rf va hr ro ct
 obtain ⟨v, rfl, rfl⟩ := vr1 va
 rw [rf]
 exact call_int_bool (ct ρ δ s.heap _ _ Go.refl hr ⟨s.toks, by cases z <;> rfl⟩)
theorem B_max2 {i j k : Int} (h : (if j > i then j else i) = k) : Bc c (.bi .max) [.int i, .int j] d T (.int k) T := by
 intro A s ρ δ fv vals Q E rf va hr ro ct
 obtain ⟨v, u, rfl, ⟨t, rfl⟩, ⟨t2, rfl⟩⟩ := vr2 va
 rw [rf]
 refine max_two_ints ro.2.2 fun h' tk kp => ct ρ δ h' tk _ (Go.of_keeps kp) (hr.of_keeps kp) ?_
 rw [← h]
 split
 ·exact ⟨_, rfl⟩
 ·exact ⟨_, rfl⟩
theorem B_mulL {r : Nat} {v : AV} {z : Bool} (h1 : T.get r = some (.list [v])) : Bi c .mul (.ref r) (.int (cond z 1 0)) T (.ref T.n) (hnew T (.list (cond z [v] []))) := by
 rintro A s ρ δ va vb Q E hr ra ⟨u, rfl⟩ ct
 obtain ⟨_, vs, k1, q1, w1⟩ := hr.obj _ _ h1
 obtain ⟨y, rfl, w2⟩ := vr1 w1
 rw [ra.2]
 refine wpAny_binaryOp_repeat_ref (T := "list") (U := "int") (by decide) ⟨_, q1, rfl⟩ (fun s' => typeIs_int s' _ u) noFill_list_mul F.fills_int_mul F.slot_int_rmul repeat_list F.slot_int_index.lookup
  (call_meets F.slot_int_rmul (typeIs_int s _ u) F.entry_int_rmul (F.args_int_rmul_2 _ _) (int___rmul___int_list _ u (ρ r) [y].toArray k1)
   ⟨q1, rfl, ⟨_, q1, rfl⟩, call_meets F.slot_list_mul ⟨_, q1, rfl⟩ F.entry_list_mul (F.args_list_mul_2 _ _)
    (AutoListH.list___mul___list_int_3 (ρ r) [y].toArray k1 _ u (by cases z <;> simp [Builtin.List.listFitsIndex]) (by cases z <;> simp) (by cases z <;> simp [Builtin.List.listTooLong, sizeLine]))
    ⟨q1, ?_⟩⟩)
 refine ct.push (t := s.toks) hr rfl ?_
 cases z with
 | false => exact ⟨[], 0, Heap.get?_push_size _ rfl, trivial⟩
 | true => exact ⟨[y], 0, Heap.get?_push_size _ rfl, ext_vrs (vs := [v]) (vals := [y]) ⟨w2, trivial⟩⟩
end
noncomputable def f_need : FI := { params := [1769300593], dfl := [], body := (.cons (.ite (.or (.cons (.cmp .isnt (.call (.glb 1718712949) (.cons (.loc 1769300593) .nil)) (.glb 7566708)) (.cons (.not (.meth (.loc 1769300593) 498014421767949786445172 (.cons (.str [47]) .nil))) .nil))) (.cons .bad .nil) .nil) (.cons (.ite (.cmp .eq (.loc 1769300593) (.str [47])) (.cons (.ret (.loc 1769300593)) .nil) .nil) (.cons (.for1 [1718510191] (.meth (.slice (.loc 1769300593) false (.int 1)) 504296730996 (.cons (.str [47]) .nil)) (.cons (.ite (.or (.cons (.cmp .eq (.loc 1718510191) (.str [])) (.cons (.cmp .gt (.call (.glb 7300717) (.cons (.loc 1718510191) .nil)) (.glb 24018033858007117)) (.cons (.cmp .isin (.loc 1718510191) (.list (.cons (.str [46]) (.cons (.str [46, 46]) .nil)))) (.cons (.cmp .ne (.meth (.loc 1718510191) 487117256052 (.cons (.glb 362107390548) .nil)) (.str [])) .nil))))) (.cons .bad .nil) .nil) .nil)) (.cons (.ret (.loc 1769300593)) .nil)))) }
noncomputable def f_parent : FI := { params := [1769300593], dfl := [], body := (.cons (.ite (.cmp .eq (.call (.glb 1701209711) (.cons (.loc 1769300593) .nil)) (.str [47])) (.cons .bad .nil) .nil) (.cons (.asg 7698020 (.meth (.loc 1769300593) 133480695425651 (.cons (.str [47]) .nil))) (.cons (.ite (.cmp .eq (.loc 7698020) (.int 0)) (.cons (.ret (.str [47])) .nil) .nil) (.cons (.ret (.slice (.loc 1769300593) true (.loc 7698020))) .nil)))) }
noncomputable def f_last : FI := { params := [1769300593], dfl := [], body := (.cons (.ret (.slice (.call (.glb 1701209711) (.cons (.loc 1769300593) .nil)) false (.bin .add (.meth (.loc 1769300593) 133480695425651 (.cons (.str [47]) .nil)) (.int 1)))) .nil) }
noncomputable def f_numbered : FI := { params := [1769300593, 126883592042095], dfl := [], body := (.cons (.ret (.call (.glb 1701209711) (.cons (.bin .add (.bin .add (.loc 1769300593) (.bin .mul (.str [48]) (.bin .sub (.int 10) (.call (.glb 7300717) (.cons (.call (.glb 7566708) (.cons (.loc 126883592042095) .nil)) .nil))))) (.call (.glb 7566708) (.cons (.loc 126883592042095) .nil))) .nil))) .nil) }
noncomputable def f_Entry___init__ : FI := { params := [1735222900, 1651860069, 495639820400, 440039269997, 128047628446323, 8030035183836554867], dfl := [], body := (.cons (.asgA (.loc 1735222900) 1651860069 (.loc 1651860069)) (.cons (.asgA (.loc 1735222900) 31367324937447031 (.int 0)) (.cons (.asgA (.loc 1735222900) 1952803436 (.int 0)) (.cons (.asgA (.loc 1735222900) 495639820400 (.loc 495639820400)) (.cons (.asgA (.loc 1735222900) 440039269997 (.loc 440039269997)) (.cons (.asgA (.loc 1735222900) 128047628446323 (.loc 128047628446323)) (.cons (.asgA (.loc 1735222900) 32482276888965220 (.int 0)) (.cons (.asgA (.loc 1735222900) 1717920366 (.loc 8030035183836554867)) (.cons (.asgA (.loc 1735222900) 28541571379128676 (.loc 8030035183836554867)) .nil))))))))) }
noncomputable def f_Entry_copy : FI := { params := [1735222900], dfl := [], body := (.cons (.asg 495639426416 (.call (.glb 525923086150) (.cons (.attr (.loc 1735222900) 1651860069) (.cons (.attr (.loc 1735222900) 495639820400) (.cons (.attr (.loc 1735222900) 440039269997) (.cons (.attr (.loc 1735222900) 128047628446323) (.cons (.attr (.loc 1735222900) 1717920366) .nil))))))) (.cons (.asgA (.loc 495639426416) 31367324937447031 (.attr (.loc 1735222900) 31367324937447031)) (.cons (.asgA (.loc 495639426416) 1952803436 (.attr (.loc 1735222900) 1952803436)) (.cons (.asgA (.loc 495639426416) 32482276888965220 (.attr (.loc 1735222900) 32482276888965220)) (.cons (.asgA (.loc 495639426416) 28541571379128676 (.attr (.loc 1735222900) 28541571379128676)) (.cons (.ret (.loc 495639426416)) .nil)))))) }
noncomputable def f_Tree___init__ : FI := { params := [1735222900], dfl := [], body := (.cons (.asgA (.loc 1735222900) 32763704688078694 (.dict (.cons (.str [47]) (.cons (.call (.glb 525923086150) (.cons (.str []) (.cons .none (.cons .none (.cons (.glb 1330008400) (.cons (.int 0) .nil)))))) .nil)))) .nil) }
noncomputable def f_Tree_has : FI := { params := [1735222900, 1769300593], dfl := [], body := (.cons (.ret (.cmp .isin (.loc 1769300593) (.attr (.loc 1735222900) 32763704688078694))) .nil) }
noncomputable def f_Tree_entry : FI := { params := [1735222900, 1769300593], dfl := [], body := (.cons (.ite (.cmp .notin (.loc 1769300593) (.attr (.loc 1735222900) 32763704688078694)) (.cons .bad .nil) .nil) (.cons (.ret (.sub (.attr (.loc 1735222900) 32763704688078694) (.loc 1769300593))) .nil)) }
noncomputable def f_Tree_copy : FI := { params := [1735222900], dfl := [], body := (.cons (.asg 495639426416 (.call (.glb 1717990229) .nil)) (.cons (.asgA (.loc 495639426416) 32763704688078694 (.dictc (.loc 1769300593) (.meth (.sub (.attr (.loc 1735222900) 32763704688078694) (.loc 1769300593)) 2054254692 .nil) 1769300593 (.attr (.loc 1735222900) 32763704688078694) .nil)) (.cons (.ret (.loc 495639426416)) .nil))) }
noncomputable def f_Tree_apply : FI := { params := [1735222900, 8030035183836554867, 112598731352420], dfl := [], body := (.cons (.asgW [1702064248, 1769300593] (.tuple (.cons (.sub (.loc 112598731352420) (.int 0)) (.cons (.sub (.loc 112598731352420) (.int 1)) .nil)))) (.cons (.ite (.cmp .eq (.loc 1702064248) (.str [99, 114, 101, 97, 116, 101])) (.cons (.expr (.meth (.loc 1735222900) 28839513110570080 (.cons (.loc 8030035183836554867) (.cons (.loc 1769300593) (.cons (.sub (.loc 112598731352420) (.int 2)) .nil))))) .nil) (.cons (.ite (.cmp .eq (.loc 1702064248) (.str [115, 101, 116])) (.cons (.asg 525923086182 (.meth (.loc 1735222900) 525923086182 (.cons (.loc 1769300593) .nil))) (.cons (.asgA (.loc 525923086182) 1651860069 (.sub (.loc 112598731352420) (.int 2))) (.cons (.asgA (.loc 525923086182) 31367324937447031 (.bin .add (.attr (.loc 525923086182) 31367324937447031) (.int 1))) (.cons (.asgA (.loc 525923086182) 28541571379128676 (.loc 8030035183836554867)) .nil)))) (.cons (.ite (.cmp .eq (.loc 1702064248) (.str [100, 101, 108, 101, 116, 101])) (.cons (.expr (.meth (.loc 1735222900) 28839530407028064 (.cons (.loc 1769300593) .nil))) .nil) (.cons (.ite (.cmp .eq (.loc 1702064248) (.str [114, 105, 103, 104, 116, 115])) (.cons (.asgA (.meth (.loc 1735222900) 525923086182 (.cons (.loc 1769300593) .nil)) 128047628446323 (.sub (.loc 112598731352420) (.int 2))) .nil) (.cons .bad .nil)) .nil)) .nil)) .nil)) .nil)) }
noncomputable def f_Tree__create : FI := { params := [1735222900, 8030035183836554867, 1769300593, 478460471912], dfl := [], body := (.cons (.asgT [1651860069, 495639820400, 440039269997, 128047628446323, 126883592042095] (.loc 478460471912)) (.cons (.ite (.meth (.loc 1735222900) 7627369 (.cons (.loc 1769300593) .nil)) (.cons .bad .nil) .nil) (.cons (.asg 440090518370 (.meth (.loc 1735222900) 525923086182 (.cons (.call (.glb 129121320657521) (.cons (.loc 1769300593) .nil)) .nil))) (.cons (.ite (.or (.cons (.cmp .isnt (.attr (.loc 440090518370) 495639820400) .none) (.cons (.cmp .isnt (.attr (.loc 440090518370) 440039269997) .none) .nil))) (.cons .bad .nil) .nil) (.cons (.asgA (.loc 440090518370) 1952803436 (.bin .add (.attr (.loc 440090518370) 1952803436) (.int 1))) (.cons (.ite (.loc 126883592042095) (.cons (.asgA (.loc 440090518370) 32482276888965220 (.bin .add (.attr (.loc 440090518370) 32482276888965220) (.int 1))) .nil) .nil) (.cons (.asgS (.attr (.loc 1735222900) 32763704688078694) (.loc 1769300593) (.call (.glb 525923086150) (.cons (.loc 1651860069) (.cons (.loc 495639820400) (.cons (.loc 440039269997) (.cons (.loc 128047628446323) (.cons (.loc 8030035183836554867) .nil))))))) .nil))))))) }
noncomputable def f_Snapshot___init__ : FI := { params := [1735222900, 8030035183836554867, 1717990261], dfl := [], body := (.cons (.asgA (.loc 1735222900) 8030035183836554867 (.loc 8030035183836554867)) (.cons (.asgA (.loc 1735222900) 1717990261 (.meth (.loc 1717990261) 2054254692 .nil)) .nil)) }
noncomputable def f_Log___init__ : FI := { params := [1735222900], dfl := [], body := (.cons (.asgA (.loc 1735222900) 1954050163 (.list .nil)) (.cons (.asgA (.loc 1735222900) 8462379648668561268 (.call (.glb 8462379648668561236) (.cons (.int 0) (.cons (.call (.glb 1717990229) .nil) .nil)))) (.cons (.asgA (.loc 1735222900) 504447006068 (.int 0)) .nil))) }
noncomputable def f_Log_add : FI := { params := [1735222900, 8030035183836554867, 1818520181, 32763696029788516], dfl := [], body := (.cons (.ite (.cmp .ne (.loc 8030035183836554867) (.bin .add (.meth (.loc 1735222900) 1970561645 .nil) (.int 1))) (.cons .bad .nil) .nil) (.cons (.expr (.meth (.attr (.loc 1735222900) 1954050163) 111529134485858 (.cons (.tuple (.cons (.loc 8030035183836554867) (.cons (.loc 1818520181) (.cons (.call (.glb 439922816629) (.cons (.loc 32763696029788516) .nil)) .nil)))) .nil))) .nil)) }
noncomputable def f_Log_last : FI := { params := [1735222900], dfl := [], body := (.cons (.ite (.cmp .eq (.call (.glb 7300717) (.cons (.attr (.loc 1735222900) 1954050163) .nil)) (.int 0)) (.cons (.ret (.attr (.loc 1735222900) 504447006068)) .nil) .nil) (.cons (.ret (.sub (.sub (.attr (.loc 1735222900) 1954050163) (.neg (.int 1))) (.int 0))) .nil)) }
noncomputable def f_Log_after : FI := { params := [1735222900, 8030035183836554867], dfl := [], body := (.cons (.ite (.cmp .lt (.loc 8030035183836554867) (.attr (.loc 1735222900) 504447006068)) (.cons (.ret .none) .nil) .nil) (.cons (.ret (.listc (.loc 7893107) [7893107] (.attr (.loc 1735222900) 1954050163) (.cons (.cmp .gt (.sub (.loc 7893107) (.int 0)) (.loc 8030035183836554867)) .nil))) .nil)) }
noncomputable def f_Log_take : FI := { params := [1735222900, 1717990261], dfl := [], body := (.cons (.asgA (.loc 1735222900) 8462379648668561268 (.call (.glb 8462379648668561236) (.cons (.meth (.loc 1735222900) 1970561645 .nil) (.cons (.loc 1717990261) .nil)))) .nil) }
noncomputable def f_Log_compact : FI := { params := [1735222900], dfl := [], body := (.cons (.asg 504381206628 (.call (.glb 7300717) (.cons (.attr (.loc 1735222900) 1954050163) .nil))) (.cons (.asgA (.loc 1735222900) 504447006068 (.call (.glb 7955054) (.cons (.attr (.loc 1735222900) 504447006068) (.cons (.attr (.attr (.loc 1735222900) 8462379648668561268) 8030035183836554867) .nil)))) (.cons (.asgA (.loc 1735222900) 1954050163 (.listc (.loc 7893107) [7893107] (.attr (.loc 1735222900) 1954050163) (.cons (.cmp .gt (.sub (.loc 7893107) (.int 0)) (.attr (.loc 1735222900) 504447006068)) .nil))) (.cons (.ret (.bin .sub (.loc 504381206628) (.call (.glb 7300717) (.cons (.attr (.loc 1735222900) 1954050163) .nil)))) .nil)))) }
noncomputable def f_need_rights : FI := { params := [128047628446323], dfl := [], body := (.cons (.ite (.cmp .is (.loc 128047628446323) .none) (.cons (.ret .none) .nil) .nil) (.cons (.ite (.or (.cons (.cmp .isnt (.call (.glb 1718712949) (.cons (.loc 128047628446323) .nil)) (.glb 1969515109)) (.cons .bad .nil))) (.cons .bad .nil) .nil) (.cons (.asg 435661729895 (.list .nil)) (.cons (.for1 [1936094326] (.call (.glb 111490731569268) (.cons (.loc 128047628446323) .nil)) (.cons (.asg 32777981192922733 (.sub (.loc 128047628446323) (.loc 1936094326))) (.cons (.ite (.or (.cons (.cmp .eq (.loc 1936094326) (.str [])) (.cons (.cmp .isnt (.call (.glb 1718712949) (.cons (.loc 32777981192922733) .nil)) (.glb 7566708)) (.cons (.cmp .ne (.meth (.loc 32777981192922733) 487117256052 (.cons (.glb 23735459588163149) .nil)) (.str [])) .nil)))) (.cons .bad .nil) .nil) (.cons (.expr (.meth (.loc 435661729895) 111529134485858 (.cons (.tuple (.cons (.loc 1936094326) (.cons (.meth (.str []) 1869246571 (.cons (.call (.glb 111490731569268) (.cons .bad .nil)) .nil)) .nil))) .nil))) .nil)))) (.cons (.ret (.call (.glb 439922816629) (.cons (.loc 435661729895) .nil))) .nil))))) }
noncomputable def f_rights_of : FI := { params := [1717990261, 1769300593], dfl := [], body := (.cons (.whl (.or (.cons (.not (.meth (.loc 1717990261) 7627369 (.cons (.loc 1769300593) .nil))) (.cons (.cmp .is (.attr (.meth (.loc 1717990261) 525923086182 (.cons (.loc 1769300593) .nil)) 128047628446323) .none) .nil))) (.cons (.asg 1769300593 (.call (.glb 129121320657521) (.cons (.loc 1769300593) .nil))) .nil)) (.cons (.ret (.call (.glb 1969515109) (.cons (.attr (.meth (.loc 1717990261) 525923086182 (.cons (.loc 1769300593) .nil)) 128047628446323) .nil))) .nil)) }
noncomputable def f_may : FI := { params := [1717990261, 1769300593, 1936094326, 126883894486637], dfl := [], body := (.cons (.asg 128047628446323 (.call (.glb 1908112239769724414579) (.cons (.loc 1717990261) (.cons (.loc 1769300593) .nil)))) (.cons (.ret (.cmp .isin (.loc 126883894486637) (.bin .add (.meth (.loc 128047628446323) 7693928 (.cons (.loc 1936094326) (.cons (.str []) .nil))) (.meth (.loc 128047628446323) 7693928 (.cons (.str [42]) (.cons (.str []) .nil)))))) .nil)) }
noncomputable def f_need_right : FI := { params := [1717990261, 1769300593, 1936094326, 126883894486637], dfl := [], body := (.cons (.ite (.not (.call (.glb 8020590) (.cons (.loc 1717990261) (.cons (.loc 1769300593) (.cons (.loc 1936094326) (.cons (.loc 126883894486637) .nil)))))) (.cons .bad .nil) .nil) .nil) }
noncomputable def f_Session___init__ : FI := { params := [1735222900, 126883592042095, 1936094326, 33062797402073717, 1818520181], dfl := [], body := (.cons (.asgA (.loc 1735222900) 126883592042095 (.loc 126883592042095)) (.cons (.asgA (.loc 1735222900) 1936094326 (.loc 1936094326)) (.cons (.asgA (.loc 1735222900) 33062797402073717 (.loc 33062797402073717)) (.cons (.asgA (.loc 1735222900) 435727525481 (.loc 1818520181)) .nil)))) }
noncomputable def f_need_ticks : FI := { params := [500034726517], dfl := [], body := (.cons (.ite (.or (.cons (.cmp .isnt (.call (.glb 1718712949) (.cons (.loc 500034726517) .nil)) (.glb 7696234)) (.cons (.cmp .lt (.loc 500034726517) (.int 1)) .nil))) (.cons .bad .nil) .nil) (.cons (.ret (.loc 500034726517)) .nil)) }
noncomputable def f_need_user : FI := { params := [1936094326], dfl := [], body := (.cons (.ite (.or (.cons (.cmp .isnt (.call (.glb 1718712949) (.cons (.loc 1936094326) .nil)) (.glb 7566708)) (.cons (.cmp .isin (.loc 1936094326) (.list (.cons (.str []) (.cons (.str [42]) .nil)))) .nil))) (.cons .bad .nil) .nil) (.cons (.ret (.loc 1936094326)) .nil)) }
noncomputable def f_Watch___init__ : FI := { params := [1735222900, 126883592042095, 31367324937512564, 1769300593, 1701800556, 500269479284, 439771687540], dfl := [], body := (.cons (.ite (.cmp .notin (.loc 1701800556) (.glb 361940077132)) (.cons .bad .nil) .nil) (.cons (.asgA (.loc 1735222900) 126883592042095 (.loc 126883592042095)) (.cons (.asgA (.loc 1735222900) 31367324937512564 (.loc 31367324937512564)) (.cons (.asgA (.loc 1735222900) 1769300593 (.loc 1769300593)) (.cons (.asgA (.loc 1735222900) 1701800556 (.loc 1701800556)) (.cons (.asgA (.loc 1735222900) 500269479284 (.loc 500269479284)) (.cons (.asgA (.loc 1735222900) 1970561645 (.loc 439771687540)) (.cons (.asgA (.loc 1735222900) 128047728981862 (.list .nil)) (.cons (.asgA (.loc 1735222900) 435510536807 (.bool false)) .nil))))))))) }
noncomputable def f_Watch_concerns : FI := { params := [1735222900, 112598731352420], dfl := [], body := (.cons (.asgW [1702064248, 1769300593] (.tuple (.cons (.sub (.loc 112598731352420) (.int 0)) (.cons (.sub (.loc 112598731352420) (.int 1)) .nil)))) (.cons (.ite (.cmp .eq (.attr (.loc 1735222900) 1701800556) (.str [101, 110, 116, 114, 121])) (.cons (.ret (.cmp .eq (.loc 1769300593) (.attr (.loc 1735222900) 1769300593))) .nil) .nil) (.cons (.ite (.cmp .eq (.attr (.loc 1735222900) 1701800556) (.str [98, 101, 108, 111, 119])) (.cons (.ret (.call (.glb 8678556768464303210) (.cons (.loc 1769300593) (.cons (.attr (.loc 1735222900) 1769300593) .nil)))) .nil) .nil) (.cons (.ret (.and (.cons (.cmp .isin (.loc 1702064248) (.list (.cons (.str [99, 114, 101, 97, 116, 101]) (.cons (.str [100, 101, 108, 101, 116, 101]) .nil)))) (.cons (.cmp .ne (.loc 1769300593) (.str [47])) (.cons (.cmp .eq (.call (.glb 129121320657521) (.cons (.loc 1769300593) .nil)) (.attr (.loc 1735222900) 1769300593)) .nil))))) .nil)))) }
noncomputable def f_Watch_see : FI := { params := [1735222900, 8030035183836554867, 32763696029788516], dfl := [], body := (.cons (.ite (.or (.cons (.cmp .le (.loc 8030035183836554867) (.attr (.loc 1735222900) 1970561645)) (.cons (.attr (.loc 1735222900) 435510536807) .nil))) (.cons .ret0 .nil) .nil) (.cons (.asgA (.loc 1735222900) 1970561645 (.loc 8030035183836554867)) (.cons (.for1 [112598731352420] (.loc 32763696029788516) (.cons (.ite (.and (.cons (.meth (.loc 1735222900) 8390051514423406692 (.cons (.loc 112598731352420) .nil)) (.cons (.not (.attr (.loc 1735222900) 435510536807)) .nil))) (.cons (.expr (.meth (.attr (.loc 1735222900) 128047728981862) 111529134485858 (.cons (.tuple (.cons (.loc 8030035183836554867) (.cons (.sub (.loc 112598731352420) (.int 0)) (.cons (.sub (.loc 112598731352420) (.int 1)) .nil)))) .nil))) (.cons (.asgA (.loc 1735222900) 435510536807 (.not (.attr (.loc 1735222900) 500269479284))) .nil)) .nil) .nil)) (.cons (.ite (.cmp .gt (.call (.glb 7300717) (.cons (.attr (.loc 1735222900) 128047728981862) .nil)) (.glb 1431588942)) (.cons (.expr (.meth (.loc 1735222900) 2019979106 (.cons (.loc 8030035183836554867) .nil))) .nil) .nil) .nil)))) }
noncomputable def f_Watch_anew : FI := { params := [1735222900, 8030035183836554867], dfl := [], body := (.cons (.asgA (.loc 1735222900) 1970561645 (.loc 8030035183836554867)) (.cons (.asgA (.loc 1735222900) 128047728981862 (.list (.cons (.tuple (.cons (.loc 8030035183836554867) (.cons (.str [97, 110, 101, 119]) (.cons (.attr (.loc 1735222900) 1769300593) .nil)))) .nil))) (.cons (.asgA (.loc 1735222900) 435510536807 (.not (.attr (.loc 1735222900) 500269479284))) .nil))) }
noncomputable def f_Watch_take : FI := { params := [1735222900], dfl := [], body := (.cons (.asg 435661729895 (.attr (.loc 1735222900) 128047728981862)) (.cons (.asgA (.loc 1735222900) 128047728981862 (.list .nil)) (.cons (.ret (.loc 435661729895)) .nil))) }
noncomputable def f_Watch_is_done : FI := { params := [1735222900], dfl := [], body := (.cons (.ret (.and (.cons (.attr (.loc 1735222900) 435510536807) (.cons (.cmp .eq (.call (.glb 7300717) (.cons (.attr (.loc 1735222900) 128047728981862) .nil)) (.int 0)) .nil)))) .nil) }
noncomputable def f_Store___init__ : FI := { params := [1735222900, 1902536300], dfl := [.none], body := (.cons (.ite (.cmp .isnt (.loc 1902536300) .none) (.cons (.expr (.call (.glb 549793996097647679006319) (.cons (.loc 1902536300) .nil))) .nil) .nil) (.cons (.asgA (.loc 1735222900) 1717990261 (.call (.glb 1717990229) .nil)) (.cons (.asgA (.loc 1735222900) 6844525 (.call (.glb 6844493) .nil)) (.cons (.asgA (.loc 1735222900) 1902536300 (.loc 1902536300)) (.cons (.asgA (.loc 1735222900) 1818520181 (.int 0)) (.cons (.asgA (.loc 1735222900) 8030035183836554867 (.int 0)) (.cons (.asgA (.loc 1735222900) 8390048233337153140 (.dict .nil)) (.cons (.asgA (.loc 1735222900) 127983388092013 (.dict .nil)) (.cons (.asgA (.loc 1735222900) 32763700141449848 (.dict .nil)) (.cons (.asgA (.loc 1735222900) 504381206628 (.int 0)) .nil)))))))))) }
noncomputable def f_Store__number : FI := { params := [1735222900], dfl := [], body := (.cons (.asgA (.loc 1735222900) 504381206628 (.bin .add (.attr (.loc 1735222900) 504381206628) (.int 1))) (.cons (.ret (.attr (.loc 1735222900) 504381206628)) .nil)) }
noncomputable def f_Store_open : FI := { params := [1735222900, 1936094326, 33062797402073717], dfl := [(.int (10))], body := (.cons (.asg 31367324937512564 (.call (.glb 31367324937512532) (.cons (.bin .add (.attr (.loc 1735222900) 504381206628) (.int 1)) (.cons (.call (.glb 2128758224322155669103) (.cons (.loc 1936094326) .nil)) (.cons (.call (.glb 549793996097647679006319) (.cons (.loc 33062797402073717) .nil)) (.cons (.attr (.loc 1735222900) 1818520181) .nil)))))) (.cons (.asgS (.attr (.loc 1735222900) 8390048233337153140) (.meth (.loc 1735222900) 32482199562776416 .nil) (.loc 31367324937512564)) (.cons (.ret (.attr (.loc 31367324937512564) 126883592042095)) .nil))) }
noncomputable def f_Store_session : FI := { params := [1735222900, 126883592042095], dfl := [], body := (.cons (.ite (.or (.cons (.cmp .isnt (.call (.glb 1718712949) (.cons (.loc 126883592042095) .nil)) (.glb 7696234)) (.cons (.cmp .notin (.loc 126883592042095) (.attr (.loc 1735222900) 8390048233337153140)) .nil))) (.cons .bad .nil) .nil) (.cons (.asgA (.sub (.attr (.loc 1735222900) 8390048233337153140) (.loc 126883592042095)) 435727525481 (.attr (.loc 1735222900) 1818520181)) (.cons (.ret (.sub (.attr (.loc 1735222900) 8390048233337153140) (.loc 126883592042095))) .nil))) }
noncomputable def f_Store__publish : FI := { params := [1735222900, 1717990261, 32763696029788516], dfl := [], body := (.cons (.asg 112645993096803 (.attr (.loc 1735222900) 1717990261)) (.cons (.asgA (.loc 1735222900) 8030035183836554867 (.bin .add (.attr (.loc 1735222900) 8030035183836554867) (.int 1))) (.cons (.asgA (.loc 1735222900) 1717990261 (.loc 1717990261)) (.cons (.expr (.meth (.attr (.loc 1735222900) 6844525) 6645090 (.cons (.attr (.loc 1735222900) 8030035183836554867) (.cons (.attr (.loc 1735222900) 1818520181) (.cons (.loc 32763696029788516) .nil))))) (.cons (.for1 [126883592042095] (.call (.glb 111490731569268) (.cons (.attr (.loc 1735222900) 32763700141449848) .nil)) (.cons (.asg 452656980600 (.sub (.attr (.loc 1735222900) 32763700141449848) (.loc 126883592042095))) (.cons (.expr (.meth (.loc 452656980600) 6710900 (.cons (.attr (.loc 1735222900) 8030035183836554867) (.cons (.meth (.loc 1735222900) 478459360352 (.cons (.loc 452656980600) (.cons (.loc 32763696029788516) (.cons (.loc 112645993096803) .nil)))) .nil)))) .nil))) (.cons (.ite (.and (.cons (.cmp .isnt (.attr (.loc 1735222900) 1902536300) .none) (.cons (.cmp .gt (.call (.glb 7300717) (.cons (.attr (.attr (.loc 1735222900) 6844525) 1954050163) .nil)) (.attr (.loc 1735222900) 1902536300)) .nil))) (.cons (.expr (.meth (.loc 1735222900) 33042946247782500 .nil)) .nil) .nil) .nil)))))) }
noncomputable def f_Store__seen : FI := { params := [1735222900, 452656980600, 32763696029788516, 112645993096803], dfl := [], body := (.cons (.asg 1936094326 (.attr (.sub (.attr (.loc 1735222900) 8390048233337153140) (.attr (.loc 452656980600) 31367324937512564)) 1936094326)) (.cons (.asg 435661729895 (.list .nil)) (.cons (.for1 [112598731352420] (.loc 32763696029788516) (.cons (.asg 1717990261 (.attr (.loc 1735222900) 1717990261)) (.cons (.ite (.not (.meth (.loc 1717990261) 7627369 (.cons (.sub (.loc 112598731352420) (.int 1)) .nil))) (.cons (.asg 1717990261 (.loc 112645993096803)) .nil) .nil) (.cons (.ite (.call (.glb 8020590) (.cons (.loc 1717990261) (.cons (.sub (.loc 112598731352420) (.int 1)) (.cons (.loc 1936094326) (.cons (.str [114]) .nil))))) (.cons (.expr (.meth (.loc 435661729895) 111529134485858 (.cons (.loc 112598731352420) .nil))) .nil) .nil) .nil)))) (.cons (.ret (.loc 435661729895)) .nil)))) }
noncomputable def f_Store_compact : FI := { params := [1735222900], dfl := [], body := (.cons (.expr (.meth (.attr (.loc 1735222900) 6844525) 1718379125 (.cons (.attr (.loc 1735222900) 1717990261) .nil))) (.cons (.ret (.meth (.attr (.loc 1735222900) 6844525) 33042946247782500 .nil)) .nil)) }
noncomputable def f_Store_create : FI := { params := [1735222900, 126883592042095, 1769300593, 1651860069, 115948722807415, 7306654329047250543, 440039269997, 128047628446323], dfl := [(.str []), (.bool false), (.bool false), .none, .none], body := (.cons (.ret (.meth (.loc 1735222900) 112628813619808 (.cons (.loc 126883592042095) (.cons (.tuple (.cons (.str [99, 114, 101, 97, 116, 101]) (.cons (.loc 1769300593) (.cons (.loc 1651860069) (.cons (.loc 115948722807415) (.cons (.loc 7306654329047250543) (.cons (.loc 440039269997) (.cons (.loc 128047628446323) .nil)))))))) .nil)))) .nil) }
noncomputable def f_Store_set : FI := { params := [1735222900, 126883592042095, 1769300593, 1651860069, 31367324937447031], dfl := [.none], body := (.cons (.ret (.meth (.loc 1735222900) 112628813619808 (.cons (.loc 126883592042095) (.cons (.tuple (.cons (.str [115, 101, 116]) (.cons (.loc 1769300593) (.cons (.loc 1651860069) (.cons (.loc 31367324937447031) .nil))))) .nil)))) .nil) }
noncomputable def f_Store__alone : FI := { params := [1735222900, 126883592042095, 1902540148], dfl := [], body := (.cons (.asgT [1717990261, 32763696029788516, 32777981243191138] (.meth (.loc 1735222900) 128030399100000 (.cons (.loc 126883592042095) (.cons (.list (.cons (.loc 1902540148) .nil)) (.cons (.bool false) .nil))))) (.cons (.expr (.meth (.loc 1735222900) 7598815489333555552 (.cons (.loc 1717990261) (.cons (.loc 32763696029788516) .nil)))) (.cons (.ret (.sub (.loc 32777981243191138) (.int 0))) .nil))) }
noncomputable def f_Store__steps : FI := { params := [1735222900, 126883592042095, 500118746484, 30789020241323636], dfl := [], body := (.cons (.asg 1936094326 (.attr (.meth (.loc 1735222900) 31367324937512564 (.cons (.loc 126883592042095) .nil)) 1936094326)) (.cons (.asg 1717990261 (.meth (.attr (.loc 1735222900) 1717990261) 2054254692 .nil)) (.cons (.asg 32763696029788516 (.list .nil)) (.cons (.asg 32777981243191138 (.list .nil)) (.cons (.for1 [30050] (.call (.glb 439838794355) (.cons (.call (.glb 7300717) (.cons (.loc 500118746484) .nil)) .nil)) (.cons (.try (.cons (.ite (.cmp .notin (.call (.glb 1718712949) (.cons (.sub (.loc 500118746484) (.loc 30050)) .nil)) (.list (.cons (.glb 1970563693) (.cons (.glb 439922816629) .nil)))) (.cons .bad .nil) .nil) (.cons (.asg 1902540148 (.call (.glb 439922816629) (.cons (.sub (.loc 500118746484) (.loc 30050)) .nil))) (.cons (.ite (.or (.cons (.cmp .lt (.call (.glb 7300717) (.cons (.loc 1902540148) .nil)) (.int 2)) (.cons (.cmp .notin (.sub (.loc 1902540148) (.int 0)) (.glb 362140816724)) .nil))) (.cons .bad .nil) .nil) (.cons (.expr (.meth (.loc 32777981243191138) 111529134485858 (.cons (.meth (.loc 1735222900) 487050277984 (.cons (.loc 126883592042095) (.cons (.loc 1936094326) (.cons (.loc 1717990261) (.cons (.loc 1902540148) (.cons (.loc 32763696029788516) .nil)))))) .nil))) .nil)))) 545146499936607190152532 495807853414 (.cons (.ite (.loc 30789020241323636) (.cons .bad .nil) .nil) (.cons .reraise .nil))) .nil)) (.cons (.ret (.tuple (.cons (.loc 1717990261) (.cons (.loc 32763696029788516) (.cons (.loc 32777981243191138) .nil))))) .nil)))))) }
noncomputable def f_Store__step : FI := { params := [1735222900, 126883592042095, 1936094326, 1717990261, 1902540148, 32763696029788516], dfl := [], body := (.cons (.asgW [1702064248, 1769300593] (.tuple (.cons (.sub (.loc 1902540148) (.int 0)) (.cons (.call (.glb 1701209711) (.cons (.sub (.loc 1902540148) (.int 1)) .nil)) .nil)))) (.cons (.asg 1970562675 (.call (.glb 1970563693) (.cons (.slice (.loc 1902540148) false (.int 2)) .nil))) (.cons (.ite (.cmp .gt (.call (.glb 7300717) (.cons (.loc 1970562675) .nil)) (.sub (.dict (.cons (.str [99, 104, 101, 99, 107]) (.cons (.int 1) (.cons (.str [99, 114, 101, 97, 116, 101]) (.cons (.int 5) (.cons (.str [115, 101, 116]) (.cons (.int 2) (.cons (.str [100, 101, 108, 101, 116, 101]) (.cons (.int 1) (.cons (.str [103, 101, 116]) (.cons (.int 0) .nil))))))))))) (.loc 1702064248))) (.cons .bad .nil) .nil) (.cons (.ite (.cmp .eq (.loc 1702064248) (.str [99, 114, 101, 97, 116, 101])) (.cons (.asg 1970562675 (.bin .add (.loc 1970562675) (.slice (.list (.cons (.str []) (.cons (.bool false) (.cons (.bool false) (.cons .none (.cons .none .nil)))))) false (.call (.glb 7300717) (.cons (.loc 1970562675) .nil))))) (.cons (.ret (.meth (.loc 1735222900) 28839513110570080 (.cons (.loc 126883592042095) (.cons (.loc 1936094326) (.cons (.loc 1717990261) (.cons (.loc 1769300593) (.cons (.loc 1970562675) (.cons (.loc 32763696029788516) .nil)))))))) .nil)) .nil) (.cons (.ite (.cmp .eq (.loc 1702064248) (.str [103, 101, 116])) (.cons (.expr (.call (.glb 554461310576473324021359) (.cons (.loc 1717990261) (.cons (.loc 1769300593) (.cons (.loc 1936094326) (.cons (.str [114]) .nil)))))) (.cons (.ret (.attr (.meth (.loc 1717990261) 525923086182 (.cons (.loc 1769300593) .nil)) 1651860069)) .nil)) .nil) (.cons (.asg 31367324937447031 .none) (.cons (.ite (.and (.cons (.cmp .eq (.loc 1702064248) (.str [115, 101, 116])) (.cons (.cmp .gt (.call (.glb 7300717) (.cons (.loc 1970562675) .nil)) (.int 1)) .nil))) (.cons (.asg 31367324937447031 (.sub (.loc 1970562675) (.int 1))) .nil) .nil) (.cons (.ite (.and (.cons (.cmp .isin (.loc 1702064248) (.list (.cons (.str [99, 104, 101, 99, 107]) (.cons (.str [100, 101, 108, 101, 116, 101]) .nil)))) (.cons (.cmp .gt (.call (.glb 7300717) (.cons (.loc 1970562675) .nil)) (.int 0)) .nil))) (.cons (.asg 31367324937447031 (.sub (.loc 1970562675) (.int 0))) .nil) .nil) (.cons (.expr (.call (.glb 554461310576473324021359) (.cons (.loc 1717990261) (.cons (.loc 1769300593) (.cons (.loc 1936094326) (.cons (.sub (.dict (.cons (.str [99, 104, 101, 99, 107]) (.cons (.str [114]) (.cons (.str [115, 101, 116]) (.cons (.str [119]) (.cons (.str [100, 101, 108, 101, 116, 101]) (.cons (.str [100]) .nil))))))) (.loc 1702064248)) .nil)))))) (.cons (.asg 435661729895 (.call (.glb 8030035183986440032) (.cons (.loc 1717990261) (.cons (.loc 1769300593) (.cons (.loc 31367324937447031) .nil))))) (.cons (.ite (.cmp .eq (.loc 1702064248) (.str [115, 101, 116])) (.cons (.ite (.or (.cons (.cmp .eq (.call (.glb 7300717) (.cons (.loc 1970562675) .nil)) (.int 0)) (.cons (.cmp .isnt (.call (.glb 1718712949) (.cons (.sub (.loc 1970562675) (.int 0)) .nil)) (.glb 7566708)) .nil))) (.cons .bad .nil) .nil) (.cons (.expr (.meth (.loc 1735222900) 7365984 (.cons (.loc 1717990261) (.cons (.loc 32763696029788516) (.cons (.tuple (.cons (.str [115, 101, 116]) (.cons (.loc 1769300593) (.cons (.sub (.loc 1970562675) (.int 0)) .nil)))) .nil))))) (.cons (.ret (.bin .add (.loc 435661729895) (.int 1))) .nil))) .nil) (.cons (.ite (.cmp .eq (.loc 1702064248) (.str [100, 101, 108, 101, 116, 101])) (.cons (.expr (.meth (.loc 1735222900) 7365984 (.cons (.loc 1717990261) (.cons (.loc 32763696029788516) (.cons (.tuple (.cons (.str [100, 101, 108, 101, 116, 101]) (.cons (.loc 1769300593) .nil))) .nil))))) (.cons (.ret .none) .nil)) .nil) (.cons (.ret (.loc 435661729895)) .nil))))))))))))) }
noncomputable def f_Store__create : FI := { params := [1735222900, 126883592042095, 1936094326, 1717990261, 1769300593, 1970562675, 32763696029788516], dfl := [], body := (.cons (.asgT [1651860069, 115948722807415, 139509984824270207449393784, 440039269997, 128047628446323] (.loc 1970562675)) (.cons (.ite (.cmp .isnt (.call (.glb 1718712949) (.cons (.loc 1651860069) .nil)) (.glb 7566708)) (.cons .bad .nil) .nil) (.cons (.asg 440090518370 (.call (.glb 129121320657521) (.cons (.loc 1769300593) .nil))) (.cons (.expr (.call (.glb 554461310576473324021359) (.cons (.loc 1717990261) (.cons (.loc 440090518370) (.cons (.loc 1936094326) (.cons (.str [99]) .nil)))))) (.cons (.ite (.loc 139509984824270207449393784) (.cons (.asg 1769300593 (.call (.glb 7306654329047250543) (.cons (.loc 1769300593) (.cons (.attr (.meth (.loc 1717990261) 525923086182 (.cons (.loc 440090518370) .nil)) 32482276888965220) .nil)))) .nil) .nil) (.cons (.asg 495639820400 .none) (.cons (.ite (.loc 115948722807415) (.cons (.asg 495639820400 (.loc 126883592042095)) .nil) .nil) (.cons (.ite (.cmp .isnt (.loc 440039269997) .none) (.cons (.expr (.meth (.loc 1735222900) 440039269997 (.cons (.loc 440039269997) .nil))) .nil) .nil) (.cons (.asg 478460471912 (.tuple (.cons (.loc 1651860069) (.cons (.loc 495639820400) (.cons (.loc 440039269997) (.cons (.call (.glb 140789856385873457589937775) (.cons (.loc 128047628446323) .nil)) (.cons (.call (.glb 1836085347) (.cons (.loc 139509984824270207449393784) .nil)) .nil))))))) (.cons (.expr (.meth (.loc 1735222900) 7365984 (.cons (.loc 1717990261) (.cons (.loc 32763696029788516) (.cons (.tuple (.cons (.str [99, 114, 101, 97, 116, 101]) (.cons (.loc 1769300593) (.cons (.loc 478460471912) .nil)))) .nil))))) (.cons (.ret (.loc 1769300593)) .nil))))))))))) }
noncomputable def f_Store__do : FI := { params := [1735222900, 1717990261, 32763696029788516, 112598731352420], dfl := [], body := (.cons (.expr (.meth (.loc 1717990261) 525822161250 (.cons (.bin .add (.attr (.loc 1735222900) 8030035183836554867) (.int 1)) (.cons (.loc 112598731352420) .nil)))) (.cons (.expr (.meth (.loc 32763696029788516) 111529134485858 (.cons (.loc 112598731352420) .nil))) .nil)) }
noncomputable def f_Store_watch : FI := { params := [1735222900, 126883592042095, 1769300593, 1701800556, 500269479284, 439771687540], dfl := [(.str [101, 110, 116, 114, 121]), (.bool false), .none], body := (.cons (.asg 1936094326 (.attr (.meth (.loc 1735222900) 31367324937512564 (.cons (.loc 126883592042095) .nil)) 1936094326)) (.cons (.expr (.call (.glb 554461310576473324021359) (.cons (.attr (.loc 1735222900) 1717990261) (.cons (.call (.glb 1701209711) (.cons (.loc 1769300593) .nil)) (.cons (.loc 1936094326) (.cons (.str [114]) .nil)))))) (.cons (.asg 504447006068 (.attr (.loc 1735222900) 8030035183836554867)) (.cons (.ite (.cmp .isnt (.loc 439771687540) .none) (.cons (.ite (.or (.cons (.cmp .isnt (.call (.glb 1718712949) (.cons (.loc 439771687540) .nil)) (.glb 7696234)) (.cons (.not (.cmp2 (.int 0) .le (.loc 439771687540) .le (.attr (.loc 1735222900) 8030035183836554867))) .nil))) (.cons (.raise (.call (.glb 545146499936607190152532) (.cons (.str [110, 111, 32, 115, 117, 99, 104, 32, 114, 101, 118, 105, 115, 105, 111, 110]) (.cons (.loc 439771687540) .nil)))) .nil) .nil) (.cons (.asg 504447006068 (.loc 439771687540)) .nil)) .nil) (.cons (.asg 452656980600 (.call (.glb 452656980568) (.cons (.bin .add (.attr (.loc 1735222900) 504381206628) (.int 1)) (.cons (.loc 126883592042095) (.cons (.loc 1769300593) (.cons (.loc 1701800556) (.cons (.loc 500269479284) (.cons (.loc 504447006068) .nil)))))))) (.cons (.asgS (.attr (.loc 1735222900) 32763700141449848) (.meth (.loc 1735222900) 32482199562776416 .nil) (.loc 452656980600)) (.cons (.ite (.cmp .isnt (.loc 439771687540) .none) (.cons (.expr (.meth (.loc 1735222900) 2093012013903606080608 (.cons (.loc 452656980600) .nil))) .nil) .nil) (.cons (.ret (.attr (.loc 452656980600) 126883592042095)) .nil)))))))) }
noncomputable def f_Store__catch_up : FI := { params := [1735222900, 452656980600], dfl := [], body := (.cons (.asg 1954050163 (.meth (.attr (.loc 1735222900) 6844525) 495640209250 (.cons (.attr (.loc 452656980600) 1970561645) .nil))) (.cons (.ite (.cmp .is (.loc 1954050163) .none) (.cons (.expr (.meth (.loc 452656980600) 2019979106 (.cons (.attr (.loc 1735222900) 8030035183836554867) .nil))) (.cons .ret0 .nil)) .nil) (.cons (.for1 [8030035183836554867, 1818520181, 32763696029788516] (.loc 1954050163) (.cons (.expr (.meth (.loc 452656980600) 6710900 (.cons (.loc 8030035183836554867) (.cons (.meth (.loc 1735222900) 478459360352 (.cons (.loc 452656980600) (.cons (.loc 32763696029788516) (.cons (.attr (.loc 1735222900) 1717990261) .nil)))) .nil)))) .nil)) .nil))) }
noncomputable def f_Store_events : FI := { params := [1735222900, 126883592042095, 452656980600], dfl := [], body := (.cons (.expr (.meth (.loc 1735222900) 31367324937512564 (.cons (.loc 126883592042095) .nil))) (.cons (.ite (.or (.cons (.cmp .isnt (.call (.glb 1718712949) (.cons (.loc 452656980600) .nil)) (.glb 7696234)) (.cons (.cmp .notin (.loc 452656980600) (.attr (.loc 1735222900) 32763700141449848)) (.cons (.cmp .ne (.attr (.sub (.attr (.loc 1735222900) 32763700141449848) (.loc 452656980600)) 31367324937512564) (.loc 126883592042095)) .nil)))) (.cons .bad .nil) .nil) (.cons (.asg 435661729895 (.meth (.sub (.attr (.loc 1735222900) 32763700141449848) (.loc 452656980600)) 1718379125 .nil)) (.cons (.ite (.meth (.sub (.attr (.loc 1735222900) 32763700141449848) (.loc 452656980600)) 28832976152327274 .nil) (.cons (.delS (.attr (.loc 1735222900) 32763700141449848) (.loc 452656980600)) .nil) .nil) (.cons (.ret (.loc 435661729895)) .nil))))) }
noncomputable def f__version : FI := { params := [1717990261, 1769300593, 31367324937447031], dfl := [], body := (.cons (.asg 435661729895 (.neg (.int 1))) (.cons (.ite (.meth (.loc 1717990261) 7627369 (.cons (.loc 1769300593) .nil)) (.cons (.asg 435661729895 (.attr (.meth (.loc 1717990261) 525923086182 (.cons (.loc 1769300593) .nil)) 31367324937447031)) .nil) .nil) (.cons (.ite (.and (.cons (.cmp .isnt (.loc 31367324937447031) .none) (.cons (.cmp .ne (.loc 31367324937447031) (.loc 435661729895)) .nil))) (.cons (.raise (.call (.glb 8459003018227970116) (.cons (.str [97, 110, 111, 116, 104, 101, 114, 32, 118, 101, 114, 115, 105, 111, 110]) (.cons (.loc 1769300593) .nil)))) .nil) .nil) (.cons (.ite (.and (.cons (.cmp .eq (.loc 435661729895) (.neg (.int 1))) (.cons (.cmp .is (.loc 31367324937447031) .none) .nil))) (.cons (.raise (.call (.glb 545146499936607190152532) (.cons (.str [110, 111, 32, 101, 110, 116, 114, 121]) (.cons (.loc 1769300593) .nil)))) .nil) .nil) (.cons (.ret (.loc 435661729895)) .nil))))) }
noncomputable def f_law : FI := { params := [129129977701492], dfl := [], body := (.cons (.ite (.cmp .lt (.call (.glb 7300717) (.cons (.loc 129129977701492) .nil)) (.int 4)) (.cons (.ret (.bool true)) .nil) .nil) (.cons (.asg 1902536300 (.bin .add (.int 1) (.bin .mod (.sub (.loc 129129977701492) (.int 0)) (.int 4)))) (.cons (.asg 440023414132 (.call (.glb 440023414100) (.cons (.loc 1902536300) .nil))) (.cons (.asg 7367032 (.meth (.loc 440023414132) 1868984688 (.cons (.str [97, 110, 110]) (.cons (.int 50) .nil)))) (.cons (.expr (.meth (.loc 440023414132) 112654348088164 (.cons (.loc 7367032) (.cons (.str [47, 97]) .nil)))) (.cons (.for1 [108] (.call (.glb 439838794355) (.cons (.bin .mod (.sub (.loc 129129977701492) (.int 1)) (.int 7)) .nil)) (.cons (.expr (.meth (.loc 440023414132) 7693940 (.cons (.loc 7367032) (.cons (.str [47, 97]) (.cons (.call (.glb 7566708) (.cons (.loc 108) .nil)) .nil))))) .nil)) (.cons (.asg 439771687540 (.bin .mod (.sub (.loc 129129977701492) (.int 2)) (.bin .add (.attr (.loc 440023414132) 8030035183836554867) (.int 2)))) (.cons (.asg 435661729895 (.str [])) (.cons (.asg 452656980600 .none) (.cons (.try (.cons (.asg 452656980600 (.meth (.loc 440023414132) 452656980600 (.cons (.loc 7367032) (.cons (.str [47, 97]) (.cons (.str [101, 110, 116, 114, 121]) (.cons (.bool true) (.cons (.loc 439771687540) .nil))))))) .nil) 545146499936607190152532 495807853414 (.cons (.asg 435661729895 (.attr (.loc 495807853414) 1702064248)) .nil)) (.cons (.ite (.cmp .gt (.loc 439771687540) (.attr (.loc 440023414132) 8030035183836554867)) (.cons (.ret (.cmp .eq (.loc 435661729895) (.str [110, 111, 32, 115, 117, 99, 104, 32, 114, 101, 118, 105, 115, 105, 111, 110]))) .nil) .nil) (.cons (.asg 7893103 (.attr (.loc 440023414132) 8030035183836554867)) (.cons (.asg 6714981 (.bin .add (.bin .mul (.list (.cons (.tuple (.cons (.int 1) (.cons (.str [99, 114, 101, 97, 116, 101]) (.cons (.str [47, 97]) .nil)))) .nil)) (.call (.glb 7696234) (.cons (.cmp .lt (.loc 439771687540) (.int 1)) .nil))) (.listc (.tuple (.cons (.loc 8030035183836554867) (.cons (.str [115, 101, 116]) (.cons (.str [47, 97]) .nil)))) [8030035183836554867] (.call (.glb 439838794355) (.cons (.call (.glb 7955054) (.cons (.int 2) (.cons (.bin .add (.loc 439771687540) (.int 1)) .nil))) (.cons (.bin .add (.loc 7893103) (.int 1)) .nil))) .nil))) (.cons (.ite (.cmp .lt (.loc 439771687540) (.attr (.attr (.loc 440023414132) 6844525) 504447006068)) (.cons (.asg 6714981 (.list (.cons (.tuple (.cons (.loc 7893103) (.cons (.str [97, 110, 101, 119]) (.cons (.str [47, 97]) .nil)))) .nil))) .nil) .nil) (.cons (.for1 [108] (.call (.glb 439838794355) (.cons (.bin .mod (.sub (.loc 129129977701492) (.int 3)) (.int 4)) .nil)) (.cons (.expr (.meth (.loc 440023414132) 7693940 (.cons (.loc 7367032) (.cons (.str [47, 97]) (.cons (.str [108, 97, 116, 101, 114]) .nil))))) (.cons (.expr (.meth (.loc 6714981) 111529134485858 (.cons (.tuple (.cons (.attr (.loc 440023414132) 8030035183836554867) (.cons (.str [115, 101, 116]) (.cons (.str [47, 97]) .nil)))) .nil))) .nil))) (.cons (.ret (.cmp .eq (.tuple (.cons (.loc 435661729895) (.cons (.meth (.loc 440023414132) 128047728981862 (.cons (.loc 7367032) (.cons (.loc 452656980600) .nil))) .nil))) (.tuple (.cons (.str []) (.cons (.loc 6714981) .nil))))) .nil)))))))))))))))) }
noncomputable def c_Entry : CI := { meths := [(6944679725401530464, 147), (2054254692, 161)], flds := [28541571379128676, 32482276888965220, 1651860069, 1952803436, 440039269997, 1717920366, 495639820400, 128047628446323, 31367324937447031] }
noncomputable def c_Tree : CI := { meths := [(6944679725401530464, 182), (7627369, 189), (525923086182, 196), (2054254692, 211), (525822161250, 223), (28839513110570080, 230)], flds := [32763704688078694] }
noncomputable def c_Snapshot : CI := { meths := [(6944679725401530464, 258)], flds := [8030035183836554867, 1717990261] }
noncomputable def c_Log : CI := { meths := [(6944679725401530464, 279), (6645090, 286), (1970561645, 293), (495640209250, 298), (1718379125, 305), (33042946247782500, 310)], flds := [1954050163, 8462379648668561268, 504447006068] }
noncomputable def c_Session : CI := { meths := [(6944679725401530464, 364)], flds := [435727525481, 126883592042095, 33062797402073717, 1936094326] }
noncomputable def c_Watch : CI := { meths := [(6944679725401530464, 407), (8390051514423406692, 414), (6710900, 421), (2019979106, 428), (1718379125, 435), (28832976152327274, 442)], flds := [128047728981862, 435510536807, 1701800556, 1970561645, 126883592042095, 1769300593, 31367324937512564, 500269479284] }
noncomputable def c_Store : CI := { meths := [(6944679725401530464, 465), (32482199562776416, 472), (1868984688, 480), (31367324937512564, 487), (7598815489333555552, 566), (478459360352, 573), (33042946247782500, 580), (112654348088164, 609), (7693940, 617), (112628813619808, 632), (128030399100000, 653), (487050277984, 660), (28839513110570080, 667), (7365984, 674), (452656980600, 682), (2093012013903606080608, 689), (128047728981862, 696)], flds := [504381206628, 1902536300, 127983388092013, 6844525, 8030035183836554867, 8390048233337153140, 1818520181, 1717990261, 32763700141449848] }
noncomputable def fns : List (Nat × FI) := [(103, f_need), (110, f_parent), (117, f_last), (131, f_numbered), (147, f_Entry___init__), (161, f_Entry_copy), (182, f_Tree___init__), (189, f_Tree_has), (196, f_Tree_entry), (211, f_Tree_copy), (223, f_Tree_apply), (230, f_Tree__create), (258, f_Snapshot___init__), (279, f_Log___init__), (286, f_Log_add), (293, f_Log_last), (298, f_Log_after), (305, f_Log_take), (310, f_Log_compact), (329, f_need_rights), (336, f_rights_of), (343, f_may), (350, f_need_right), (364, f_Session___init__), (385, f_need_ticks), (392, f_need_user), (407, f_Watch___init__), (414, f_Watch_concerns), (421, f_Watch_see), (428, f_Watch_anew), (435, f_Watch_take), (442, f_Watch_is_done), (465, f_Store___init__), (472, f_Store__number), (480, f_Store_open), (487, f_Store_session), (566, f_Store__publish), (573, f_Store__seen), (580, f_Store_compact), (609, f_Store_create), (617, f_Store_set), (632, f_Store__alone), (653, f_Store__steps), (660, f_Store__step), (667, f_Store__create), (674, f_Store__do), (682, f_Store_watch), (689, f_Store__catch_up), (696, f_Store_events), (731, f__version), (736, f_law)]
noncomputable def clss : List (Nat × CI) := [(164, c_Entry), (240, c_Tree), (261, c_Snapshot), (320, c_Log), (374, c_Session), (445, c_Watch), (720, c_Store)]
noncomputable def glbs : List (Nat × AV) := [(469986605152, (.obj 21)), (545146499936607190152532, (.obj 48)), (111490546755141, (.obj 61)), (8459003018227970116, (.obj 73)), (112628813098838, (.obj 94)), (362107390548, (.str [97, 98, 99, 100, 101, 102, 103, 104, 105, 106, 107, 108, 109, 110, 111, 112, 113, 114, 115, 116, 117, 118, 119, 120, 121, 122, 48, 49, 50, 51, 52, 53, 54, 55, 56, 57, 45, 95, 46])), (24018033858007117, (.int (40))), (1701209711, (.obj 103)), (129121320657521, (.obj 110)), (1970561645, (.obj 117)), (8678556768464303210, (.obj 124)), (7306654329047250543, (.obj 131)), (1330008400, (.obj 133)), (525923086150, (.obj 164)), (1717990229, (.obj 240)), (8462379648668561236, (.obj 261)), (6844493, (.obj 320)), (23735459588163149, (.str [97, 99, 100, 114, 119])), (140789856385873457589937775, (.obj 329)), (1908112239769724414579, (.obj 336)), (8020590, (.obj 343)), (554461310576473324021359, (.obj 350)), (31367324937512532, (.obj 374)), (549793996097647679006319, (.obj 385)), (2128758224322155669103, (.obj 392)), (361940077132, (.obj 393)), (1431588942, (.int (20))), (452656980568, (.obj 445)), (362140816724, (.obj 450)), (440023414100, (.obj 720)), (8030035183986440032, (.obj 731)), (7889517, (.obj 736)), (7300717, (.bi .len)), (439838794355, (.typ .range)), (111490731569268, (.bi .sorted)), (1718712949, (.typ .type)), (7566708, (.typ .str)), (7696234, (.typ .int)), (439922816629, (.typ .tuple)), (1970563693, (.typ .list)), (1969515109, (.typ .dict)), (7955054, (.bi .max)), (1836085347, (.typ .bool))]
noncomputable def tops : List (Nat × List AV) := [(132, [(.str [42]), (.str [97, 99, 100, 114, 119])]), (133, [(.obj 132)]), (393, [(.str [101, 110, 116, 114, 121]), (.str [99, 104, 105, 108, 100, 114, 101, 110]), (.str [98, 101, 108, 111, 119])]), (450, [(.str [99, 104, 101, 99, 107]), (.str [99, 114, 101, 97, 116, 101]), (.str [115, 101, 116]), (.str [100, 101, 108, 101, 116, 101]), (.str [103, 101, 116])])]
noncomputable def G : Tab := { fns := fns, cls := clss, glb := glbs, top := tops }
noncomputable abbrev lawAt : Nat := 736
theorem tC {c : Cx} (hG : c.G = G) {C : Nat} {ci : CI} (h : lk G.cls C = some ci) : lk c.G.cls C = some ci := by rw [hG]; exact h
theorem tF {c : Cx} (hG : c.G = G) {C : Nat} {ci : FI} (h : lk G.fns C = some ci) : lk c.G.fns C = some ci := by rw [hG]; exact h
theorem tG {c : Cx} (hG : c.G = G) {C : Nat} {ci : AV} (h : lk G.glb C = some ci) : lk c.G.glb C = some ci := by rw [hG]; exact h
theorem tA {c : Cx} (hG : c.G = G) {C a : Nat} (h : fld G C a = true) : fld c.G C a = true := by rw [hG]; exact h
theorem tM {c : Cx} (hG : c.G = G) {C m f : Nat} (h : mth G C m = some f) : mth c.G C m = some f := by rw [hG]; exact h
structure En where
 data : AV
 ver : Int
 kids : Int
 own : AV
 lea : AV
 rig : AV
 cnt : Int
 made : Int
 chg : Int
noncomputable abbrev En.ob (e : En) : AO := .inst 164 [(1651860069, e.data), (31367324937447031, .int e.ver), (1952803436, .int e.kids), (495639820400, e.own), (440039269997, e.lea), (128047628446323, e.rig), (32482276888965220, .int e.cnt), (1717920366, .int e.made), (28541571379128676, .int e.chg)]
section
variable {c : Cx} (ok : Ok c) (hG : c.G = G) {d : Nat} {T : Hp}
include ok hG
theorem entry_init {dt ow le ri : AV} {ma : Int} (hn : 1 ≤ T.n) : CaP c (hnew T (.inst 164 [])) 147 [.ref T.n, dt, ow, le, ri, .int ma] (d + 1) fun u T' => u = .none ∧ T'.get T.n = some (En.ob ⟨dt, 0, 0, ow, le, ri, 0, ma, ma⟩) ∧ Upd T.n All T T' ∧ T'.n = T.n + 1 := by
 refine C_funQ ok (l := [(1735222900, _), (1651860069, _), (495639820400, _), (440039269997, _), (128047628446323, _), (8030035183836554867, _)]) (tF hG rfl) rfl fun Qz hQ => ?_
 apply X_consP
 apply S_asgL ok
 refine E_loc rfl ?_
 apply k_al
 exact rfl
 ·(with_reducible repeat' first|assumption|exact get_new _ _|apply get_put|apply get_old|refine get_nf (by assumption) ?_|apply get_kd|with_unfolding_all rfl)
 exact tA hG rfl
 exact lb rfl
 first | assumption | exact Nat.le_add_left 1 _ | exact lb rfl
 apply X_consP
 apply S_asgL ok
 apply E_int
 apply k_al
 exact rfl
 ·(with_reducible repeat' first|assumption|exact get_new _ _|apply get_put|apply get_old|refine get_nf (by assumption) ?_|apply get_kd|with_unfolding_all rfl)
 exact tA hG rfl
 exact lb rfl
 first | assumption | exact Nat.le_add_left 1 _ | exact lb rfl
 apply X_consP
 apply S_asgL ok
 apply E_int
 apply k_al
 exact rfl
 ·(with_reducible repeat' first|assumption|exact get_new _ _|apply get_put|apply get_old|refine get_nf (by assumption) ?_|apply get_kd|with_unfolding_all rfl)
 exact tA hG rfl
 exact lb rfl
 first | assumption | exact Nat.le_add_left 1 _ | exact lb rfl
 apply X_consP
 apply S_asgL ok
 refine E_loc rfl ?_
 apply k_al
 exact rfl
 ·(with_reducible repeat' first|assumption|exact get_new _ _|apply get_put|apply get_old|refine get_nf (by assumption) ?_|apply get_kd|with_unfolding_all rfl)
 exact tA hG rfl
 exact lb rfl
 first | assumption | exact Nat.le_add_left 1 _ | exact lb rfl
 apply X_consP
 apply S_asgL ok
 refine E_loc rfl ?_
 apply k_al
 exact rfl
 ·(with_reducible repeat' first|assumption|exact get_new _ _|apply get_put|apply get_old|refine get_nf (by assumption) ?_|apply get_kd|with_unfolding_all rfl)
 exact tA hG rfl
 exact lb rfl
 first | assumption | exact Nat.le_add_left 1 _ | exact lb rfl
 apply X_consP
 apply S_asgL ok
 refine E_loc rfl ?_
 apply k_al
 exact rfl
 ·(with_reducible repeat' first|assumption|exact get_new _ _|apply get_put|apply get_old|refine get_nf (by assumption) ?_|apply get_kd|with_unfolding_all rfl)
 exact tA hG rfl
 exact lb rfl
 first | assumption | exact Nat.le_add_left 1 _ | exact lb rfl
 apply X_consP
 apply S_asgL ok
 apply E_int
 apply k_al
 exact rfl
 ·(with_reducible repeat' first|assumption|exact get_new _ _|apply get_put|apply get_old|refine get_nf (by assumption) ?_|apply get_kd|with_unfolding_all rfl)
 exact tA hG rfl
 exact lb rfl
 first | assumption | exact Nat.le_add_left 1 _ | exact lb rfl
 apply X_consP
 apply S_asgL ok
 refine E_loc rfl ?_
 apply k_al
 exact rfl
 ·(with_reducible repeat' first|assumption|exact get_new _ _|apply get_put|apply get_old|refine get_nf (by assumption) ?_|apply get_kd|with_unfolding_all rfl)
 exact tA hG rfl
 exact lb rfl
 first | assumption | exact Nat.le_add_left 1 _ | exact lb rfl
 apply X_consP
 apply S_asgL ok
 refine E_loc rfl ?_
 apply k_al
 exact rfl
 ·(with_reducible repeat' first|assumption|exact get_new _ _|apply get_put|apply get_old|refine get_nf (by assumption) ?_|apply get_kd|with_unfolding_all rfl)
 exact tA hG rfl
 exact lb rfl
 first | assumption | exact Nat.le_add_left 1 _ | exact lb rfl
 apply X_nilP
 apply hQ
 exact ⟨rfl, get_put (get_put (get_put (get_put (get_put (get_put (get_put (get_put (get_put (get_new _ _))))))))), ((((((((Upd.refl.new.put (Nat.le_refl _)).put (Nat.le_refl _)).put (Nat.le_refl _)).put (Nat.le_refl _)).put (Nat.le_refl _)).put (Nat.le_refl _)).put (Nat.le_refl _)).put (Nat.le_refl _)).put (Nat.le_refl _), rfl⟩
theorem entry_copy {e : En} {r : Nat} (hn : 1 ≤ T.n) (h : T.get r = some e.ob) : CaP c T 161 [.ref r] (d + 3) fun u T' => u = .ref T.n ∧ T'.get T.n = some e.ob ∧ Upd T.n All T T' ∧ T'.n = T.n + 1 := by
 refine C_funQ ok (l := [(1735222900, _)]) (tF hG rfl) rfl fun Qz hQ => ?_
 obtain ⟨_, T1, h1, rfl, g1, u1, n1⟩ := entry_init ok hG (d := d) (dt := e.data) (ow := e.own) (le := e.lea) (ri := e.rig) (ma := e.made) hn
 have ne := Nat.ne_of_lt (lt_of_get h)
 have p := lt_of_get g1
 have g0 := u1.get (r := r) trivial h
 apply X_consP
 apply S_asg
 refine E_new ok (tG hG rfl) (tC hG rfl) rfl ?_
 apply Es_cons
 apply E_la ok
 exact rfl
 ·(with_reducible repeat' first|assumption|exact get_new _ _|apply get_put|apply get_old|refine get_nf (by assumption) ?_|apply get_kd|with_unfolding_all rfl)
 exact tA hG rfl
 exact rfl
 apply Es_cons
 apply E_la ok
 exact rfl
 ·(with_reducible repeat' first|assumption|exact get_new _ _|apply get_put|apply get_old|refine get_nf (by assumption) ?_|apply get_kd|with_unfolding_all rfl)
 exact tA hG rfl
 exact rfl
 apply Es_cons
 apply E_la ok
 exact rfl
 ·(with_reducible repeat' first|assumption|exact get_new _ _|apply get_put|apply get_old|refine get_nf (by assumption) ?_|apply get_kd|with_unfolding_all rfl)
 exact tA hG rfl
 exact rfl
 apply Es_cons
 apply E_la ok
 exact rfl
 ·(with_reducible repeat' first|assumption|exact get_new _ _|apply get_put|apply get_old|refine get_nf (by assumption) ?_|apply get_kd|with_unfolding_all rfl)
 exact tA hG rfl
 exact rfl
 apply Es_cons
 apply E_la ok
 exact rfl
 ·(with_reducible repeat' first|assumption|exact get_new _ _|apply get_put|apply get_old|refine get_nf (by assumption) ?_|apply get_kd|with_unfolding_all rfl)
 exact tA hG rfl
 exact rfl
 apply Es_nil
 refine k_ca (h1) ?_
 apply k_no
 apply X_consP
 apply S_asgL ok
 apply E_la ok
 exact rfl
 ·(with_reducible repeat' first|assumption|exact get_new _ _|apply get_put|apply get_old|refine get_nf (by assumption) ?_|apply get_kd|with_unfolding_all rfl)
 exact tA hG rfl
 exact rfl
 apply k_al
 exact rfl
 ·(with_reducible repeat' first|assumption|exact get_new _ _|apply get_put|apply get_old|refine get_nf (by assumption) ?_|apply get_kd|with_unfolding_all rfl)
 exact tA hG rfl
 exact lb rfl
 first | assumption | exact Nat.le_add_left 1 _ | exact lb rfl
 apply X_consP
 apply S_asgL ok
 apply E_la ok
 exact rfl
 ·(with_reducible repeat' first|assumption|exact get_new _ _|apply get_put|apply get_old|refine get_nf (by assumption) ?_|apply get_kd|with_unfolding_all rfl)
 exact tA hG rfl
 exact rfl
 apply k_al
 exact rfl
 ·(with_reducible repeat' first|assumption|exact get_new _ _|apply get_put|apply get_old|refine get_nf (by assumption) ?_|apply get_kd|with_unfolding_all rfl)
 exact tA hG rfl
 exact lb rfl
 first | assumption | exact Nat.le_add_left 1 _ | exact lb rfl
 apply X_consP
 apply S_asgL ok
 apply E_la ok
 exact rfl
 ·(with_reducible repeat' first|assumption|exact get_new _ _|apply get_put|apply get_old|refine get_nf (by assumption) ?_|apply get_kd|with_unfolding_all rfl)
 exact tA hG rfl
 exact rfl
 apply k_al
 exact rfl
 ·(with_reducible repeat' first|assumption|exact get_new _ _|apply get_put|apply get_old|refine get_nf (by assumption) ?_|apply get_kd|with_unfolding_all rfl)
 exact tA hG rfl
 exact lb rfl
 first | assumption | exact Nat.le_add_left 1 _ | exact lb rfl
 apply X_consP
 apply S_asgL ok
 apply E_la ok
 exact rfl
 ·(with_reducible repeat' first|assumption|exact get_new _ _|apply get_put|apply get_old|refine get_nf (by assumption) ?_|apply get_kd|with_unfolding_all rfl)
 exact tA hG rfl
 exact rfl
 apply k_al
 exact rfl
 ·(with_reducible repeat' first|assumption|exact get_new _ _|apply get_put|apply get_old|refine get_nf (by assumption) ?_|apply get_kd|with_unfolding_all rfl)
 exact tA hG rfl
 exact lb rfl
 first | assumption | exact Nat.le_add_left 1 _ | exact lb rfl
 apply X_consP
 apply S_ret
 refine E_loc rfl ?_
 apply hQ
 exact ⟨rfl, get_put (get_put (get_put (get_put g1))), (((u1.put (Nat.le_refl _)).put (Nat.le_refl _)).put (Nat.le_refl _)).put (Nat.le_refl _), n1⟩
end
noncomputable abbrev Es := List (List Nat × En)
structure Nd where
 p : List Nat
 r : Nat
 e : En
noncomputable abbrev Nd.dc (x : Nd) : AV × AV := (.str x.p, .ref x.r)
noncomputable abbrev Nd.pe (x : Nd) : List Nat × En := (x.p, x.e)
noncomputable abbrev trOb (dr : Nat) : AO := .inst 240 [(32763704688078694, .ref dr)]
structure Tree3 (T : Hp) (lo t dr ep : Nat) (xs : List Nd) : Prop where
 ht : T.get t = some (trOb dr)
 hd : T.get dr = some (.dict (xs.map Nd.dc) ep)
 he : ∀ x ∈ xs, T.get x.r = some x.e.ob
 lt : lo ≤ t
 ld : lo ≤ dr
 le : ∀ x ∈ xs, lo ≤ x.r
 nr : (xs.map Nd.r).Nodup
 np : (xs.map Nd.p).Nodup
 sz : xs.length < 60
noncomputable def TreeAt (T : Hp) (lo t : Nat) (es : Es) : Prop := ∃ dr ep xs, Tree3 T lo t dr ep xs ∧ xs.map Nd.pe = es
theorem dlk_no {p : List Nat} {xs : List Nd} (h : p ∉ xs.map Nd.p) : dlk (.str p) (xs.map Nd.dc) = none := by
 induction xs with
 | nil => rfl
 | cons x xs ih =>
  show (if decide (x.p = p) = true then _ else _) = _
  have n : x.p ≠ p := fun e => h (e ▸ .head _)
  rw [if_neg fun e => n (of_decide_eq_true e)]
  exact ih fun m => h (.tail _ m)
theorem dlk_yes {x : Nd} {xs : List Nd} (m : x ∈ xs) (nd : (xs.map Nd.p).Nodup) : dlk (.str x.p) (xs.map Nd.dc) = some (.ref x.r) := by
 induction xs with
 | nil => cases m
 | cons y xs ih =>
  show (if decide (y.p = x.p) = true then _ else _) = _
  have nd := List.nodup_cons.mp nd
  cases m with
  | head => rw [if_pos (decide_eq_true rfl)]
  | tail _ m =>
   have n : y.p ≠ x.p := fun e => nd.1 (e ▸ List.mem_map_of_mem m)
   rw [if_neg fun e => n (of_decide_eq_true e)]
   exact ih m nd.2
theorem kOk_dc {p : List Nat} {xs : List Nd} : kOk (.str p) (xs.map Nd.dc) = true := by cases xs <;> rfl
theorem dpt_new {p : List Nat} {r : Nat} {xs : List Nd} (e : En) (h : p ∉ xs.map Nd.p) : dpt (.str p) (.ref r) (xs.map Nd.dc) = (xs ++ [Nd.mk p r e]).map Nd.dc := by
 induction xs with
 | nil => rfl
 | cons x xs ih =>
  show (if decide (x.p = p) = true then _ else _) = _
  have n : x.p ≠ p := fun e => h (e ▸ .head _)
  rw [if_neg fun e => n (of_decide_eq_true e), ih fun m => h (.tail _ m)]
  rfl
theorem ep_new {p : List Nat} {xs : List Nd} (h : p ∉ xs.map Nd.p) (ep : Nat) : epS (.str p) (xs.map Nd.dc) ep = ep + 1 := by
 unfold epS; rw [dlk_no h]
theorem Nd.sameR {xs : List Nd} (nd : (xs.map Nd.r).Nodup) {x y : Nd} (hx : x ∈ xs) (hy : y ∈ xs) (e : x.r = y.r) : x = y := by
 induction xs with
 | nil => cases hx
 | cons z xs ih =>
  have nd := List.nodup_cons.mp nd
  cases hx with
  | head => cases hy with
   | head => rfl
   | tail _ m => exact absurd (e ▸ List.mem_map_of_mem m) nd.1
  | tail _ m => cases hy with
   | head => exact absurd (e ▸ List.mem_map_of_mem m) nd.1
   | tail _ m2 => exact ih nd.2 m m2
theorem Tree3.upd {T T' : Hp} {P : Nat → AO → Prop} {lo t dr ep : Nat} {xs : List Nd} (x : Tree3 T lo t dr ep xs) (u : Upd T.n P T T') (h1 : ∀ r dr, P r (trOb dr)) (h2 : ∀ r es ep, P r (.dict es ep)) (h3 : ∀ r e, P r (En.ob e)) : Tree3 T' lo t dr ep xs :=
 { x with ht := u.get (h1 _ _) x.ht, hd := u.get (h2 _ _ _) x.hd, he := fun y m => u.get (h3 _ _) (x.he y m) }
theorem Tree3.all {T T' : Hp} {lo t dr ep : Nat} {xs : List Nd} (x : Tree3 T lo t dr ep xs) (u : Upd T.n All T T') : Tree3 T' lo t dr ep xs := x.upd u (fun _ _ => trivial) (fun _ _ _ => trivial) fun _ _ => trivial
theorem TreeAt.upd {T T' : Hp} {P : Nat → AO → Prop} {lo t : Nat} {es : Es} (x : TreeAt T lo t es) (u : Upd T.n P T T') (h1 : ∀ r dr, P r (trOb dr)) (h2 : ∀ r es ep, P r (.dict es ep)) (h3 : ∀ r e, P r (En.ob e)) : TreeAt T' lo t es :=
 let ⟨dr, ep, xs, x, e⟩ := x; ⟨dr, ep, xs, x.upd u h1 h2 h3, e⟩
theorem TreeAt.all {T T' : Hp} {lo t : Nat} {es : Es} (x : TreeAt T lo t es) (u : Upd T.n All T T') : TreeAt T' lo t es := x.upd u (fun _ _ => trivial) (fun _ _ _ => trivial) fun _ _ => trivial
theorem Upd.a {n : Nat} {P : Nat → AO → Prop} {T T' : Hp} (u : Upd n All T T') : Upd n P T T' := u.weak (Nat.le_refl _) fun _ _ _ => trivial
theorem Upd.then {P : Nat → AO → Prop} {T T1 T2 : Hp} {n : Nat} (u : Upd n P T T1) (v : Upd T1.n P T1 T2) (le : n ≤ T1.n) : Upd n P T T2 := u.trans (v.weak le fun _ _ p => p)
section
variable {c : Cx} (ok : Ok c) (hG : c.G = G) {d lo t dr ep : Nat} {T : Hp} {xs : List Nd} {es : Es}
include ok hG
theorem has3 {p : List Nat} {b : Bool} (t3 : Tree3 T lo t dr ep xs) (h : (dlk (.str p) (xs.map Nd.dc)).isSome = b) : Ca c 189 [.ref t, .str p] (d + 1) T (.bool b) T := by
 have ht := t3.ht
 have : CaP c T 189 [.ref t, .str p] (d + 1) fun u T' => u = .bool b ∧ T' = T := by
  refine C_funQ ok (l := [(1735222900, _), (1769300593, _)]) (tF hG rfl) rfl fun Qz hQ => ?_
  apply X_consP
  apply S_ret
  apply E_cmp
  refine E_loc rfl ?_
  apply E_la ok
  exact rfl
  ·(with_reducible repeat' first|assumption|exact get_new _ _|apply get_put|apply get_old|refine get_nf (by assumption) ?_|apply get_kd|with_unfolding_all rfl)
  exact tA hG rfl
  exact rfl
  refine k_cm _ (cmt (C_inD t3.hd kOk_dc) h) ?_
  apply hQ
  exact ⟨rfl, rfl⟩
 obtain ⟨_, _, h, rfl, rfl⟩ := this
 exact h
theorem has_yes {p : List Nat} {e : En} (h : TreeAt T lo t es) (m : (p, e) ∈ es) : Ca c 189 [.ref t, .str p] (d + 1) T (.bool true) T := by
 obtain ⟨dr, ep, xs, t3, rfl⟩ := h
 obtain ⟨x, hm, q⟩ := List.mem_map.mp m
 cases q
 exact has3 ok hG t3 (by rw [dlk_yes hm t3.np]; rfl)
theorem has_no {p : List Nat} (h : TreeAt T lo t es) (m : p ∉ es.map (·.1)) : Ca c 189 [.ref t, .str p] (d + 1) T (.bool false) T := by
 obtain ⟨dr, ep, xs, t3, rfl⟩ := h
 rw [List.map_map] at m
 exact has3 ok hG t3 (by rw [dlk_no m]; rfl)
theorem entry3 {x : Nd} (t3 : Tree3 T lo t dr ep xs) (m : x ∈ xs) : Ca c 196 [.ref t, .str x.p] (d + 1) T (.ref x.r) T := by
 have ht := t3.ht
 have q := dlk_yes m t3.np
 have : CaP c T 196 [.ref t, .str x.p] (d + 1) fun u T' => u = .ref x.r ∧ T' = T := by
  refine C_funQ ok (l := [(1735222900, _), (1769300593, _)]) (tF hG rfl) rfl fun Qz hQ => ?_
  apply X_consP
  apply S_if
  apply T_cmpP
  refine E_loc rfl ?_
  apply E_la ok
  exact rfl
  ·(with_reducible repeat' first|assumption|exact get_new _ _|apply get_put|apply get_old|refine get_nf (by assumption) ?_|apply get_kd|with_unfolding_all rfl)
  exact tA hG rfl
  exact rfl
  refine k_cm false (cmt (C_ninD t3.hd kOk_dc) (by rw [q]; rfl)) ?_
  apply X_nilP
  apply X_consP
  apply S_ret
  apply E_sub
  apply E_la ok
  exact rfl
  ·(with_reducible repeat' first|assumption|exact get_new _ _|apply get_put|apply get_old|refine get_nf (by assumption) ?_|apply get_kd|with_unfolding_all rfl)
  exact tA hG rfl
  exact rfl
  refine E_loc rfl ?_
  refine k_it (I_dict t3.hd kOk_dc q) ?_
  apply hQ
  exact ⟨rfl, rfl⟩
 obtain ⟨_, _, h, rfl, rfl⟩ := this
 exact h
theorem entry_yes {p : List Nat} {e : En} (h : TreeAt T lo t es) (m : (p, e) ∈ es) : ∃ r, Ca c 196 [.ref t, .str p] (d + 1) T (.ref r) T ∧ T.get r = some e.ob := by
 obtain ⟨dr, ep, xs, t3, rfl⟩ := h
 obtain ⟨x, hm, q⟩ := List.mem_map.mp m
 cases q
 exact ⟨x.r, entry3 ok hG t3 hm, t3.he x hm⟩
end
noncomputable abbrev root0 : En := ⟨.str [], 0, 0, .none, .none, .obj 133, 0, 0, 0⟩
theorem nd1 {α : Type} {a : α} : [a].Nodup := List.nodup_cons.mpr ⟨List.not_mem_nil, List.nodup_nil⟩
structure Cp (T : Hp) (n0 A ep : Nat) (ys : List Nd) : Prop where
 hd : T.get A = some (.dict (ys.map Nd.dc) ep)
 he : ∀ y ∈ ys, T.get y.r = some y.e.ob
 le : ∀ y ∈ ys, n0 ≤ y.r
 nr : (ys.map Nd.r).Nodup
theorem get_mid {α β : Type} (f : α → β) (pr : List α) (x : α) (l : List α) : ((pr ++ x :: l).map f)[pr.length]? = some (f x) := by
 rw [List.getElem?_map, List.getElem?_append_right (Nat.le_refl _), Nat.sub_self]; rfl
theorem get_end {α β : Type} (f : α → β) (pr : List α) : (pr.map f)[pr.length]? = none := by
 rw [List.getElem?_map, List.getElem?_eq_none (Nat.le_refl _)]; rfl
theorem dkeys (xs : List Nd) : (xs.map Nd.dc).map (·.1) = xs.map fun x => AV.str x.p := by rw [List.map_map]; rfl
theorem Cp.add {T T1 : Hp} {n0 A ep : Nat} {ys : List Nd} (h : Cp T n0 A ep ys) {p : List Nat} {e : En} (np : p ∉ ys.map Nd.p) (u : Upd T.n All T T1) (g : T1.get T.n = some e.ob) (le : n0 ≤ T.n) : Cp (hput T1 A (.dict (dpt (.str p) (.ref T.n) (ys.map Nd.dc)) (epS (.str p) (ys.map Nd.dc) ep))) n0 A (ep + 1) (ys ++ [⟨p, T.n, e⟩]) := by
 have g0 := u.get trivial h.hd
 refine ⟨?_, fun y m => ?_, fun y m => ?_, ?_⟩
 ·rw [← dpt_new e np, ← ep_new np]; exact get_put g0
 ·rcases List.mem_append.mp m with m | m
  ·exact get_kd g0 (u.get trivial (h.he y m)) rfl
  ·cases List.mem_singleton.mp m; exact get_kd g0 g rfl
 ·rcases List.mem_append.mp m with m | m
  ·exact h.le y m
  ·cases List.mem_singleton.mp m; exact le
 ·rw [List.map_append, List.nodup_append]
  refine ⟨h.nr, nd1, fun a ha b hb => ?_⟩
  obtain ⟨y, m, rfl⟩ := List.mem_map.mp ha
  cases List.mem_singleton.mp hb
  exact Nat.ne_of_lt (lt_of_get (h.he y m))
section
variable {c : Cx} (ok : Ok c) (hG : c.G = G) {d lo t dr ep : Nat} {T : Hp} {xs : List Nd} {es : Es}
include ok hG
theorem tree_init (hn : 1 ≤ T.n) : CaP c (hnew T (.inst 240 [])) 182 [.ref T.n] (d + 3) fun u T' => u = .none ∧ TreeAt T' T.n T.n [([47], root0)] ∧ Upd T.n All T T' := by
 refine C_funQ ok (l := [(1735222900, _)]) (tF hG rfl) rfl fun Qz hQ => ?_
 obtain ⟨_, T1, h1, rfl, g1, u1, n1⟩ := entry_init ok hG (T := hnew (hnew T (.inst 240 [])) (.dict [] 0)) (d := d) (dt := .str []) (ow := .none) (le := .none) (ri := .obj 133) (ma := 0) (Nat.le_add_left 1 _)
 have ga : T1.get T.n = some (.inst 240 []) := u1.get trivial (get_old (get_new _ _))
 have gb : T1.get (hnew T (.inst 240 [])).n = some (.dict [] 0) := u1.get trivial (get_new (hnew T (.inst 240 [])) _)
 apply X_consP
 apply S_asgL ok
 apply E_dict ok
 apply P_consP
 apply E_str
 refine E_new ok (tG hG rfl) (tC hG rfl) rfl ?_
 apply Es_cons
 apply E_str
 apply Es_cons
 apply E_none
 apply Es_cons
 apply E_none
 apply Es_cons
 refine E_glb ok (tG hG rfl) ?_
 apply Es_cons
 apply E_int
 apply Es_nil
 refine k_ca (h1) ?_
 apply k_no
 apply P_nilP
 apply k_di
 exact gb
 exact Nat.ble_eq_true_of_le (by first | assumption | exact Nat.le_add_left 1 _ | exact lb rfl)
 exact rfl
 exact List.cons_ne_nil _ _
 exact rfl
 apply k_al
 exact rfl
 ·(with_reducible repeat' first|assumption|exact get_new _ _|apply get_put|apply get_old|refine get_nf (by assumption) ?_|apply get_kd|with_unfolding_all rfl)
 exact tA hG rfl
 exact lb rfl
 first | assumption | exact Nat.le_add_left 1 _ | exact lb rfl
 apply X_nilP
 apply hQ
 refine ⟨rfl, ⟨T.n + 1, 1, [⟨[47], T.n + 2, root0⟩], ⟨get_put (get_kd gb ga rfl), get_kd (get_kd gb ga rfl) (get_put gb) rfl, fun x m => ?_, Nat.le_refl _, Nat.le_succ _, fun x m => ?_, nd1, nd1, lb rfl⟩, rfl⟩, ?_⟩
 ·cases List.mem_singleton.mp m
  exact get_kd (get_kd gb ga rfl) (get_kd gb g1 rfl) rfl
 ·cases List.mem_singleton.mp m; exact Nat.le_add_right _ 2
 ·exact ((((Upd.refl.new.new (o := .dict [] 0)).trans (u1.weak (Nat.le_add_right _ 2) fun _ _ _ => trivial))).put (Nat.le_succ _)).put (Nat.le_refl _)
theorem copy_loop {n0 A : Nat} {len : Nat} {v : PE} (hA : n0 ≤ A) (hn0 : 1 ≤ n0) (hd0 : dr < n0) (hlen : xs.length = len) (sz : xs.length < 60) (np : (xs.map Nd.p).Nodup) (l : List Nd) : ∀ (pr ys : List Nd) (ep' : Nat) (T : Hp) (loc : Loc), xs = pr ++ l → T.get t = some (trOb dr) → T.get dr = some (.dict (xs.map Nd.dc) ep) → (∀ x ∈ xs, T.get x.r = some x.e.ob) → Cp T n0 A ep' ys → ys.map Nd.pe = pr.map Nd.pe → n0 ≤ T.n → lk loc 1735222900 = some (.ref t) →
  CoP c (d + 3) loc T (.dict (.loc 1769300593) (.meth (.sub (.attr (.loc 1735222900) 32763704688078694) (.loc 1769300593)) 2054254692 .nil)) A [1769300593] dr (.dict len ep) pr.length .nil fun T' => ∃ ep'' ys', Cp T' n0 A ep'' ys' ∧ ys'.map Nd.pe = xs.map Nd.pe ∧ Upd n0 All T T' := by
 induction l with
 | nil =>
  intro pr ys ep' T loc hx ht hd he cp hy hn hs
  rw [List.append_nil] at hx
  subst hx
  exact Co_endP (turnD hd (by rw [List.length_map]; exact hlen) (by rw [dkeys]; exact get_end _ _)) ⟨_, _, cp, hy, Upd.refl⟩
 | cons x l ih =>
  intro pr ys ep' T loc hx ht hd he cp hy hn hs
  have mx : x ∈ xs := hx ▸ List.mem_append_right _ (.head _)
  have q := dlk_yes mx np
  obtain ⟨_, T1, h1, rfl, g1, u1, n1⟩ := entry_copy ok hG (d := d) (Nat.le_trans hn0 hn) (he x mx)
  have ne : dr ≠ A := Nat.ne_of_lt (Nat.lt_of_lt_of_le hd0 hA)
  have npx : x.p ∉ ys.map Nd.p := by
   have e : ys.map Nd.p = pr.map Nd.p := by
    have := congrArg (List.map (·.1)) hy
    rw [List.map_map, List.map_map] at this; exact this
   rw [e]
   rw [hx, List.map_append, List.nodup_append] at np
   exact fun m => np.2.2 _ m _ (.head _) rfl
  have cp1 := cp.add npx u1 g1 hn
  have gA := u1.get trivial cp.hd
  have yl : ys.length < 60 := by
   have := congrArg List.length hy
   rw [List.length_map, List.length_map] at this
   rw [this]; rw [hx, List.length_append] at sz
   exact Nat.lt_of_le_of_lt (Nat.le_add_right _ _) sz
  refine Co_dictP (turnD hd (by rw [List.length_map]; exact hlen) (by rw [dkeys, hx]; exact get_mid _ _ _ _)) bind_one ?_
  have k1 : lk (pt loc 1769300593 (.str x.p)) 1769300593 = some (.str x.p) := by rw [lk_pt, if_pos rfl]
  have k2 : lk (pt loc 1769300593 (.str x.p)) 1735222900 = some (.ref t) := by rw [lk_pt, if_neg (by decide)]; exact hs
  apply Te_nilP; apply k_ye
  refine E_loc k1 ?_
  apply E_meth ok; apply E_sub
  refine E_la ok k2 ht (tA hG rfl) rfl ?_
  refine E_loc k1 ?_
  refine k_it (I_dict hd kOk_dc q) ?_
  refine k_mt2 (he x mx) (tM hG rfl) rfl ?_
  apply Es_nil
  refine k_ca h1 ?_
  refine k_dp gA kOk_dc (by rw [List.length_map]; exact Nat.lt_trans yl (lb rfl)) (Nat.le_trans hn0 hA) ?_
  have := ih (pr ++ [x]) _ _ _ (pt loc 1769300593 (.str x.p)) (by rw [hx, List.append_assoc]; rfl) (get_kd gA (u1.get trivial ht) rfl) (get_nf ne (u1.get trivial hd)) (fun y m => get_kd gA (u1.get trivial (he y m)) rfl) cp1 (by rw [List.map_append, List.map_append, hy]; rfl) (show n0 ≤ T1.n from n1 ▸ Nat.le_succ_of_le hn) k2
  rw [List.length_append] at this
  obtain ⟨T', h2, ep'', ys', c2, e2, u2⟩ := this
  exact ⟨T', h2, ep'', ys', c2, e2, ((u1.weak hn fun _ _ _ => trivial).put hA).trans u2⟩
theorem tree_copy (h : TreeAt T lo t es) (hn : 1 ≤ T.n) : CaP c T 211 [.ref t] (d + 5) fun u T' => u = .ref T.n ∧ TreeAt T' T.n T.n es ∧ Upd T.n All T T' := by
 obtain ⟨dr, ep, xs, t3, rfl⟩ := h
 refine C_funQ ok (l := [(1735222900, _)]) (tF hG rfl) rfl fun Qz hQ => ?_
 obtain ⟨_, T1, h1, rfl, ⟨dr1, ep1, xs1, t31, hx1⟩, u1⟩ := tree_init ok hG (T := T) (d := d) hn
 have l1 := lt_of_get t31.ht
 have ht := u1.get trivial t3.ht
 have hd := u1.get trivial t3.hd
 have := copy_loop ok hG (d := d + 1) (n0 := T1.n) (A := T1.n) (t := t) (dr := dr) (ep := ep) (Nat.le_refl _) (Nat.le_trans hn u1.1) (lt_of_get hd) rfl t3.sz t3.np (v := .none) xs [] [] 0 (hnew T1 (.dict [] 0)) (rm [k_dot0, 1769300593] [(1735222900, .ref t), (495639426416, .ref T.n)]) rfl (get_old ht) (get_old hd) (fun x m => get_old (u1.get trivial (t3.he x m))) ⟨get_new _ _, fun y m => (by cases m), fun y m => (by cases m), List.nodup_nil⟩ rfl (Nat.le_succ _) rfl
 obtain ⟨T2, h2, ep2, ys, cp, hy, u2⟩ := this
 have gt : T2.get T.n = some (trOb dr1) := u2.2 _ _ l1 trivial (get_old t31.ht)
 apply X_consP
 apply S_asg
 refine E_new ok (tG hG rfl) (tC hG rfl) rfl ?_
 apply Es_nil
 refine k_ca (h1) ?_
 apply k_no
 apply X_consP
 apply S_asgL ok
 apply E_dictc ok
 apply E_la ok
 exact rfl
 ·(with_reducible repeat' first|assumption|exact get_new _ _|apply get_put|apply get_old|refine get_nf (by assumption) ?_|apply get_kd|with_unfolding_all rfl)
 exact tA hG rfl
 exact rfl
 refine k_ik (show IkOf T1 dr (.dict xs.length ep) from ⟨_, hd, List.length_map _⟩) ?_
 refine k_co (h2) ?_
 apply k_al
 exact rfl
 ·(with_reducible repeat' first|assumption|exact get_new _ _|apply get_put|apply get_old|refine get_nf (by assumption) ?_|apply get_kd|with_unfolding_all rfl)
 exact tA hG rfl
 exact lb rfl
 first | assumption | exact Nat.le_add_left 1 _ | exact lb rfl
 apply X_consP
 apply S_ret
 refine E_loc rfl ?_
 apply hQ
 have ln : ys.length = xs.length := by
  have := congrArg List.length hy
  rw [List.length_map, List.length_map] at this; exact this
 have e : ys.map Nd.p = xs.map Nd.p := by
  have := congrArg (List.map (·.1)) hy
  rw [List.map_map, List.map_map] at this; exact this
 refine ⟨rfl, ⟨T1.n, ep2, ys, ⟨get_put gt, get_kd gt cp.hd rfl, fun y m => get_nf (Nat.ne_of_gt (Nat.lt_of_lt_of_le l1 (cp.le y m))) (cp.he y m), Nat.le_refl _, Nat.le_of_lt l1, fun y m => Nat.le_trans (Nat.le_of_lt l1) (cp.le y m), cp.nr, e ▸ t3.np, ln ▸ t3.sz⟩, hy⟩, ?_⟩
 exact (u1.then (Upd.refl.new.trans u2) (Nat.le_of_lt l1)).put (Nat.le_refl _)
end
noncomputable abbrev signs : List Nat := [97, 98, 99, 100, 101, 102, 103, 104, 105, 106, 107, 108, 109, 110, 111, 112, 113, 114, 115, 116, 117, 118, 119, 120, 121, 122, 48, 49, 50, 51, 52, 53, 54, 55, 56, 57, 45, 95, 46]
noncomputable def okName (s : List Nat) : Bool := !s.isEmpty && Nat.ble s.length 40 && !decide (s = [46]) && !decide (s = [46, 46]) && s.all fun b => signs.contains b
noncomputable def names : List Nat → List Nat → List (List Nat)
 | a, [] => [a.reverse]
 | a, x :: l => if x = 47 then a.reverse :: names [] l else names (x :: a) l
noncomputable def rix (p : List Nat) : Nat := p.length - 1 - p.reverse.findIdx (fun x => decide (x = 47))
noncomputable def parL (p : List Nat) : List Nat := if rix p = 0 then [47] else p.take (rix p)
noncomputable def lastL (p : List Nat) : List Nat := p.drop (rix p + 1)
noncomputable def okP (p : List Nat) : Bool := (match p with | [] => false | x :: _ => Nat.beq x 47) && Nat.ble p.length 200 && decide (p[rix p]? = some 47) && ((lastL p).all fun x => !decide (x = 47)) &&
 (decide (p = [47]) || (decide (joinL 47 (names [] (p.drop 1)) = p.drop 1) && !(names [] (p.drop 1)).isEmpty && Nat.ble (names [] (p.drop 1)).length 10 && (names [] (p.drop 1)).all fun n => okName n && !n.contains 47))
structure OkP (p : List Nat) : Prop where
 hd : ∃ q, p = 47 :: q
 len : p.length ≤ 200
 ix : p[rix p]? = some 47
 no : ∀ k, rix p < k → p[k]? ≠ some 47
 nms : p = [47] ∨ (p ≠ [47] ∧ ∃ ns, ns ≠ [] ∧ joinL 47 ns = p.drop 1 ∧ ns.length ≤ 10 ∧ ∀ n ∈ ns, okName n = true ∧ 47 ∉ n)
theorem okP_of {p : List Nat} (h : okP p = true) : OkP p := by
 unfold okP at h
 simp -iota only [Bool.and_eq_true, Bool.or_eq_true] at h
 obtain ⟨⟨⟨⟨h1, h2⟩, h3⟩, h4⟩, h5⟩ := h
 refine ⟨?_, Nat.le_of_ble_eq_true h2, of_decide_eq_true h3, fun k hk e => ?_, ?_⟩
 ·cases p with
  | nil => cases h1
  | cons x q => exact ⟨q, by rw [Nat.eq_of_beq_eq_true h1]⟩
 ·have m : 47 ∈ lastL p := by
   refine List.mem_of_getElem? (i := k - (rix p + 1)) ?_
   unfold lastL
   rw [List.getElem?_drop, Nat.add_sub_cancel' hk]; exact e
  have := List.all_eq_true.mp h4 47 m
  cases this
 ·by_cases z : p = [47]
  ·exact .inl z
  ·rcases h5 with h5 | ⟨⟨⟨h5, h6⟩, h7⟩, h8⟩
   ·exact absurd (of_decide_eq_true h5) z
   ·refine .inr ⟨z, _, fun e => ?_, of_decide_eq_true h5, Nat.le_of_ble_eq_true h7, fun n m => ?_⟩
    ·rw [e] at h6; cases h6
    ·have := List.all_eq_true.mp h8 n m
     rw [Bool.and_eq_true] at this
     refine ⟨this.1, fun m => ?_⟩
     have t := this.2
     rw [List.contains_iff_mem.mpr m] at t; cases t
theorem okName_of {s : List Nat} (h : okName s = true) : s ≠ [] ∧ s.length ≤ 40 ∧ s ≠ [46] ∧ s ≠ [46, 46] ∧ ∀ b ∈ s, b ∈ signs := by
 unfold okName at h
 simp only [Bool.and_eq_true] at h
 obtain ⟨⟨⟨⟨h1, h2⟩, h3⟩, h4⟩, h5⟩ := h
 refine ⟨fun e => ?_, Nat.le_of_ble_eq_true h2, fun e => ?_, fun e => ?_, fun b m => List.contains_iff_mem.mp (List.all_eq_true.mp h5 b m)⟩
 ·subst e; cases h1
 ·subst e; cases h3
 ·subst e; cases h4
theorem pq_no {a b : List Nat} (h : a ≠ b) : pq (.str a) (.str b) = some false := congrArg some (decide_eq_false h)
theorem sq_no {a b : List Nat} (h : b ≠ a) : sq (.str a) (.str b) = false := decide_eq_false (Ne.symm h)
section
variable {c : Cx} (ok : Ok c) (hG : c.G = G) {d lo t dr ep : Nat} {T : Hp} {xs : List Nd} {es : Es}
include ok hG
theorem need_loop {src : Nat} {ns : List (List Nat)} (l : List (List Nat)) : ∀ (pr : List (List Nat)) (T : Hp) (loc : Loc), ns = pr ++ l → (∀ n ∈ l, okName n = true) → T.get src = some (.list (ns.map .str)) →
  ∃ loc' T', Lo c [1718510191] src .list pr.length (.cons (.ite (.or (.cons (.cmp .eq (.loc 1718510191) (.str [])) (.cons (.cmp .gt (.call (.glb 7300717) (.cons (.loc 1718510191) .nil)) (.glb 24018033858007117)) (.cons (.cmp .isin (.loc 1718510191) (.list (.cons (.str [46]) (.cons (.str [46, 46]) .nil)))) (.cons (.cmp .ne (.meth (.loc 1718510191) k_strip (.cons (.glb 362107390548) .nil)) (.str [])) .nil))))) (.cons .bad .nil) .nil) .nil) d loc T (.nxt loc') T' ∧ lk loc' 1769300593 = lk loc 1769300593 ∧ Upd T.n All T T' := by
 induction l with
 | nil =>
  intro pr T loc hx hk hs
  rw [List.append_nil] at hx; subst hx
  exact ⟨_, _, L_end (turnL hs (get_end _ _)), rfl, Upd.refl⟩
 | cons s l ih =>
  intro pr T loc hx hk hs
  obtain ⟨q1, q2, q3, q4, q5⟩ := okName_of (hk s (.head _))
  obtain ⟨loc', T', h2, e2, u2⟩ := ih (pr ++ [s]) (hnew T (.list [.str [46], .str [46, 46]])) (pt loc 1718510191 (.str s)) (by rw [hx, List.append_assoc]; rfl) (fun n m => hk n (.tail _ m)) (get_old hs)
  have kN : lk (pt loc 1718510191 (.str s)) 1718510191 = some (.str s) := by rw [lk_pt, if_pos rfl]
  rw [List.length_append] at h2
  have : ExP c d (pt loc 1718510191 (.str s)) T (.cons (.ite (.or (.cons (.cmp .eq (.loc 1718510191) (.str [])) (.cons (.cmp .gt (.call (.glb 7300717) (.cons (.loc 1718510191) .nil)) (.glb 24018033858007117)) (.cons (.cmp .isin (.loc 1718510191) (.list (.cons (.str [46]) (.cons (.str [46, 46]) .nil)))) (.cons (.cmp .ne (.meth (.loc 1718510191) k_strip (.cons (.glb 362107390548) .nil)) (.str [])) .nil))))) (.cons .bad .nil) .nil) .nil) (fun l T1 => l = pt loc 1718510191 (.str s) ∧ T1 = hnew T (.list [.str [46], .str [46, 46]])) (fun _ _ => False) := by
   apply X_consP; apply S_if; apply T_orP; apply Ts_goP; apply T_cmpP
   refine E_loc kN ?_
   apply E_str
   refine k_cm false (C_eq (pq_no q1)) ?_
   apply k_ye; apply Ts_goP; apply T_cmpP
   refine E_callB ok (tG hG rfl) (.inl ⟨_, rfl⟩) ?_
   apply Es_cons
   refine E_loc kN ?_
   apply Es_nil
   refine k_bc (B_lenS (Nat.lt_of_le_of_lt q2 (lb rfl))) ?_
   refine E_glb ok (tG hG rfl) ?_
   refine k_cm false (cmt C_gt (decide_eq_false (Int.not_lt.mpr (Int.ofNat_le.mpr q2)))) ?_
   apply k_ye; apply Ts_goP; apply T_cmpP
   refine E_loc kN ?_
   apply E_list; apply Es_cons; apply E_str; apply Es_cons; apply E_str; apply Es_nil
   refine k_sh (lb rfl) ?_
   refine k_cm false (cmt (C_in (.inr (get_new _ _)) rfl) (by show (sq _ _ || (sq _ _ || false)) = false; rw [sq_no q3, sq_no q4]; rfl)) ?_
   apply k_ye; apply Ts_goP; apply T_cmpP; apply E_methB
   refine E_loc kN ?_
   refine k_bg G_strip ?_
   apply Es_cons
   refine E_glb ok (tG hG rfl) ?_
   apply Es_nil
   refine k_bm (M_strip0 q5 (Nat.lt_of_le_of_lt q2 (lb rfl))) ?_
   apply E_str
   refine k_cm false (C_ne (t := true) rfl) ?_
   apply k_ye
   apply Ts_nilP
   apply X_nilP
   apply X_nilP
   exact ⟨rfl, rfl⟩
  obtain ⟨_, _, h1, rfl, rfl⟩ | ⟨_, _, _, f⟩ := this
  ·exact ⟨loc', T', L_next (turnL hs (by rw [hx]; exact get_mid _ _ _ _)) bind_one h1 h2, by rw [e2, lk_pt, if_neg (by decide)], Upd.refl.new.then u2 (Nat.le_succ _)⟩
  ·exact f.elim
theorem need_ok {p : List Nat} (hp : OkP p) : CaP c T 103 [.str p] (d + 1) fun u T' => u = .str p ∧ Upd T.n All T T' := by
 obtain ⟨q, rfl⟩ := hp.hd
 refine C_funQ ok (l := [(1769300593, _)]) (tF hG rfl) rfl fun Qz hQ => ?_
 rcases hp.nms with e | ⟨ne, ns, n1, n2, n3, n4⟩
 ·cases e
  apply X_consP
  apply S_if
  apply T_orP
  apply Ts_goP
  apply T_cmpP
  refine E_callB ok (tG hG rfl) (by first | exact .inl ⟨_, rfl⟩ | exact .inr ⟨_, rfl⟩) ?_
  refine Es_loc rfl ?_
  apply Es_nil
  refine k_bc (by first|exact B_typeS|exact B_typeI|exact B_typeT (by (with_reducible repeat' first|assumption|exact get_new _ _|apply get_put|apply get_old|refine get_nf (by assumption) ?_|apply get_kd|with_unfolding_all rfl))) ?_
  refine E_glb ok (tG hG rfl) ?_
  refine k_cm false (by first | exact C_isnt0 | exact C_isnt1 rfl | exact C_isntT) ?_
  apply k_ye
  apply Ts_goP
  apply T_notP
  refine T_plainP rfl ?_
  apply E_methB
  refine E_loc rfl ?_
  refine k_bg (G_startswith) ?_
  apply Es_cons
  apply E_str
  apply Es_nil
  refine k_bm (M_startswith) ?_
  apply k_bl
  apply k_ye
  apply Ts_nilP
  apply X_nilP
  apply X_consP
  apply S_if
  apply T_cmpP
  refine E_loc rfl ?_
  apply E_str
  refine k_cm true (C_eq rfl) ?_
  apply X_consP
  apply S_ret
  refine E_loc rfl ?_
  apply hQ
  exact ⟨rfl, Upd.refl⟩
 ·have hl := hp.len
  obtain ⟨loc', T', h2, e2, u2⟩ := need_loop ok hG (d := d) (src := T.n) (ns := ns) ns [] (hnew T (.list (ns.map .str))) [(1769300593, .str (47 :: q))] rfl (fun n m => (n4 n m).1) (get_new _ _)
  apply X_consP
  apply S_if
  apply T_orP
  apply Ts_goP
  apply T_cmpP
  refine E_callB ok (tG hG rfl) (by first | exact .inl ⟨_, rfl⟩ | exact .inr ⟨_, rfl⟩) ?_
  refine Es_loc rfl ?_
  apply Es_nil
  refine k_bc (by first|exact B_typeS|exact B_typeI|exact B_typeT (by (with_reducible repeat' first|assumption|exact get_new _ _|apply get_put|apply get_old|refine get_nf (by assumption) ?_|apply get_kd|with_unfolding_all rfl))) ?_
  refine E_glb ok (tG hG rfl) ?_
  refine k_cm false (by first | exact C_isnt0 | exact C_isnt1 rfl | exact C_isntT) ?_
  apply k_ye
  apply Ts_goP
  apply T_notP
  refine T_plainP rfl ?_
  apply E_methB
  refine E_loc rfl ?_
  refine k_bg (G_startswith) ?_
  apply Es_cons
  apply E_str
  apply Es_nil
  refine k_bm (M_startswith) ?_
  apply k_bl
  apply k_ye
  apply Ts_nilP
  apply X_nilP
  apply X_consP
  apply S_if
  apply T_cmpP
  refine E_loc rfl ?_
  apply E_str
  refine k_cm false (C_eq (pq_no ne)) ?_
  apply X_nilP
  apply X_consP
  apply S_for
  apply E_methB
  apply E_slice
  refine E_loc rfl ?_
  apply E_int
  refine k_sl (S_str (Nat.lt_of_le_of_lt hl (lb rfl)) (cut_dn 1 _)) ?_
  refine k_bg (G_split) ?_
  apply Es_cons
  apply E_str
  apply Es_nil
  refine k_bm (M_split n1 (fun p m => (n4 p m).2) n2 (Nat.lt_of_le_of_lt (Nat.le_trans (Nat.le_succ _) hl) (lb rfl)) (Nat.lt_of_le_of_lt n3 (lb rfl))) ?_
  refine k_ik (ikL (get_new _ _)) ?_
  refine k_lo (h2) ?_
  apply X_consP
  apply S_ret
  refine E_loc e2 ?_
  apply hQ
  exact ⟨rfl, Upd.refl.new.then u2 (Nat.le_succ _)⟩
end
theorem lt4 {n m : Nat} (h : n ≤ m) (q : Nat.ble (m + 1) 4000 = true) : n < 4000 := Nat.lt_of_le_of_lt h (Nat.le_of_ble_eq_true q)
section
variable {c : Cx} (ok : Ok c) (hG : c.G = G) {d lo t dr ep : Nat} {T : Hp} {xs : List Nd} {es : Es}
include ok hG
theorem parent_ok {p : List Nat} (hp : OkP p) (ne : p ≠ [47]) : CaP c T 110 [.str p] (d + 2) fun u T' => u = .str (parL p) ∧ Upd T.n All T T' := by
 obtain ⟨_, T1, h1, rfl, u1⟩ := need_ok ok hG (d := d) (T := T) hp
 unfold parL
 by_cases z : rix p = 0
 ·rw [if_pos z]
  refine C_funQ ok (l := [(1769300593, _)]) (tF hG rfl) rfl fun Qz hQ => ?_
  apply X_consP
  apply S_if
  apply T_cmpP
  refine E_callF ok (tG hG rfl) (tF hG rfl) ?_
  refine Es_loc rfl ?_
  apply Es_nil
  refine k_ca (h1) ?_
  apply E_str
  refine k_cm false (C_eq (pq_no ne)) ?_
  apply X_nilP
  apply X_consP
  apply S_asg
  apply E_methB
  refine E_loc rfl ?_
  refine k_bg (G_rindex) ?_
  apply Es_cons
  apply E_str
  apply Es_nil
  refine k_bm (M_rindex hp.ix hp.no) ?_
  apply X_consP
  apply S_if
  apply T_cmpP
  refine E_loc rfl ?_
  apply E_int
  refine k_cm true (C_eq (congrArg some (decide_eq_true (by rw [z]; rfl)))) ?_
  apply X_consP
  apply S_ret
  apply E_str
  apply hQ
  exact ⟨rfl, u1⟩
 ·rw [if_neg z]
  refine C_funQ ok (l := [(1769300593, _)]) (tF hG rfl) rfl fun Qz hQ => ?_
  apply X_consP
  apply S_if
  apply T_cmpP
  refine E_callF ok (tG hG rfl) (tF hG rfl) ?_
  refine Es_loc rfl ?_
  apply Es_nil
  refine k_ca (h1) ?_
  apply E_str
  refine k_cm false (C_eq (pq_no ne)) ?_
  apply X_nilP
  apply X_consP
  apply S_asg
  apply E_methB
  refine E_loc rfl ?_
  refine k_bg (G_rindex) ?_
  apply Es_cons
  apply E_str
  apply Es_nil
  refine k_bm (M_rindex hp.ix hp.no) ?_
  apply X_consP
  apply S_if
  apply T_cmpP
  refine E_loc rfl ?_
  apply E_int
  refine k_cm false (C_eq (congrArg some (decide_eq_false fun e => z (Int.ofNat_inj.mp e)))) ?_
  apply X_nilP
  apply X_consP
  apply S_ret
  apply E_slice
  refine E_loc rfl ?_
  refine E_loc rfl ?_
  refine k_sl (S_str (lt4 hp.len rfl) (cut_up _ _)) ?_
  apply hQ
  exact ⟨rfl, u1⟩
end
inductive Rch (es : Es) : List Nat → Prop where
 | here {p : List Nat} {e : En} (m : (p, e) ∈ es) (h : e.rig = .obj 133) : Rch es p
 | up {p : List Nat} (hp : OkP p) (ne : p ≠ [47]) (h : p ∉ es.map (·.1) ∨ ∃ e, (p, e) ∈ es ∧ e.rig = .none) (r : Rch es (parL p)) : Rch es p
noncomputable abbrev acdrw : List Nat := [97, 99, 100, 114, 119]
noncomputable abbrev wlT : PE := .or (.cons (.not (.meth (.loc 1717990261) 7627369 (.cons (.loc 1769300593) .nil))) (.cons (.cmp .is (.attr (.meth (.loc 1717990261) 525923086182 (.cons (.loc 1769300593) .nil)) 128047628446323) .none) .nil))
noncomputable abbrev wlB : PSs := .cons (.asg 1769300593 (.call (.glb 129121320657521) (.cons (.loc 1769300593) .nil))) .nil
section
variable {c : Cx} (ok : Ok c) (hG : c.G = G) {d lo t dr ep : Nat} {T : Hp} {xs : List Nd} {es : Es}
theorem M_get0 {r ep d : Nat} {es : List (AV × AV)} {k u : AV} (ho : T.get r = some (.dict es ep)) (hk : kOk k es = true) (h : dlk k es = none) : Bm c "dict.get" (.ref r) [k, u] d T u T := by
 have := M_get (c := c) (d := d) (u := u) ho hk
 rw [h] at this; exact this
theorem M_get1 {r ep d : Nat} {es : List (AV × AV)} {k u v : AV} (ho : T.get r = some (.dict es ep)) (hk : kOk k es = true) (h : dlk k es = some v) : Bm c "dict.get" (.ref r) [k, u] d T v T := by
 have := M_get (c := c) (d := d) (u := u) ho hk
 rw [h] at this; exact this
include ok hG
theorem rights_loop {p : List Nat} (r : Rch es p) : ∀ (T : Hp) (loc : Loc), TreeAt T lo t es → lk loc 1717990261 = some (.ref t) → lk loc 1769300593 = some (.str p) → ∃ loc' T' p' e, Wl c wlT wlB (d + 3) loc T (.nxt loc') T' ∧ lk loc' 1717990261 = some (.ref t) ∧ lk loc' 1769300593 = some (.str p') ∧ (p', e) ∈ es ∧ e.rig = .obj 133 ∧ Upd T.n All T T' := by
 induction r with
 | @here p e m h =>
  intro T loc tr h1 h2
  obtain ⟨r, he, ge⟩ := entry_yes ok hG (d := d + 2) tr m
  have hh := has_yes ok hG (d := d + 2) tr m
  obtain ⟨dr, ep, xs, t3, hx⟩ := id tr
  have ht := t3.ht
  have : WlP c (d + 3) loc T wlT wlB (fun l T1 => l = loc ∧ T1 = T) fun _ _ => False := by
   apply W_endP
   apply T_orP
   apply Ts_goP
   apply T_notP
   refine T_plainP rfl ?_
   apply E_lm ok
   exact h1
   ·(with_reducible repeat' first|assumption|exact get_new _ _|apply get_put|apply get_old|refine get_nf (by assumption) ?_|apply get_kd|with_unfolding_all rfl)
   exact tM hG rfl
   exact rfl
   refine Es_loc h2 ?_
   apply Es_nil
   refine k_ca (hh) ?_
   apply k_bl
   apply k_ye
   apply Ts_goP
   apply T_cmpP
   apply E_attr ok
   apply E_lm ok
   exact h1
   ·(with_reducible repeat' first|assumption|exact get_new _ _|apply get_put|apply get_old|refine get_nf (by assumption) ?_|apply get_kd|with_unfolding_all rfl)
   exact tM hG rfl
   exact rfl
   refine Es_loc h2 ?_
   apply Es_nil
   refine k_ca (he) ?_
   apply k_at2
   ·(with_reducible repeat' first|assumption|exact get_new _ _|apply get_put|apply get_old|refine get_nf (by assumption) ?_|apply get_kd|with_unfolding_all rfl)
   exact tA hG rfl
   exact rfl
   apply E_none
   refine k_cm false (by rw [h]; exact C_is1 rfl) ?_
   apply k_ye
   apply Ts_nilP
   apply k_ye
   exact ⟨rfl, rfl⟩
  obtain ⟨_, _, w, rfl, rfl⟩ | ⟨_, _, _, f⟩ := this
  ·exact ⟨_, _, p, e, w, h1, h2, m, h, Upd.refl⟩
  ·exact f.elim
 | @up p hp ne h r ih =>
  intro T loc tr h1 h2
  obtain ⟨dr, ep, xs, t3, hx⟩ := id tr
  have ht := t3.ht
  obtain ⟨_, T1, hc, rfl, u1⟩ := parent_ok ok hG (d := d + 1) (T := T) hp ne
  obtain ⟨loc', T', p', e, w, a1, a2, a3, a4, a5⟩ := ih T1 (pt loc 1769300593 (.str (parL p))) (tr.all u1) (by rw [lk_pt, if_neg (by decide)]; exact h1) (by rw [lk_pt, if_pos rfl])
  have : WlP c (d + 3) loc T wlT wlB (fun l T2 => l = loc' ∧ T2 = T') fun _ _ => False := by
   apply W_nextP
   rcases h with h | ⟨e0, m, h⟩
   ·have hh := has_no ok hG (d := d + 2) tr h
    apply T_orP
    apply Ts_stopP
    apply T_notP
    refine T_plainP rfl ?_
    apply E_lm ok
    exact h1
    ·(with_reducible repeat' first|assumption|exact get_new _ _|apply get_put|apply get_old|refine get_nf (by assumption) ?_|apply get_kd|with_unfolding_all rfl)
    exact tM hG rfl
    exact rfl
    refine Es_loc h2 ?_
    apply Es_nil
    refine k_ca (hh) ?_
    apply k_bl
    apply k_ye
    apply k_ye
    apply X_consP
    apply S_asg
    refine E_callF ok (tG hG rfl) (tF hG rfl) ?_
    refine Es_loc h2 ?_
    apply Es_nil
    refine k_ca (hc) ?_
    apply X_nilP
    exact k_wl w ⟨rfl, rfl⟩
   ·obtain ⟨r, he, ge⟩ := entry_yes ok hG (d := d + 2) tr m
    have hh := has_yes ok hG (d := d + 2) tr m
    apply T_orP
    apply Ts_goP
    apply T_notP
    refine T_plainP rfl ?_
    apply E_lm ok
    exact h1
    ·(with_reducible repeat' first|assumption|exact get_new _ _|apply get_put|apply get_old|refine get_nf (by assumption) ?_|apply get_kd|with_unfolding_all rfl)
    exact tM hG rfl
    exact rfl
    refine Es_loc h2 ?_
    apply Es_nil
    refine k_ca (hh) ?_
    apply k_bl
    apply k_ye
    apply Ts_stopP
    apply T_cmpP
    apply E_attr ok
    apply E_lm ok
    exact h1
    ·(with_reducible repeat' first|assumption|exact get_new _ _|apply get_put|apply get_old|refine get_nf (by assumption) ?_|apply get_kd|with_unfolding_all rfl)
    exact tM hG rfl
    exact rfl
    refine Es_loc h2 ?_
    apply Es_nil
    refine k_ca (he) ?_
    apply k_at2
    ·(with_reducible repeat' first|assumption|exact get_new _ _|apply get_put|apply get_old|refine get_nf (by assumption) ?_|apply get_kd|with_unfolding_all rfl)
    exact tA hG rfl
    exact rfl
    apply E_none
    refine k_cm true (by rw [h]; exact C_is0) ?_
    apply k_ye
    apply k_ye
    apply X_consP
    apply S_asg
    refine E_callF ok (tG hG rfl) (tF hG rfl) ?_
    refine Es_loc h2 ?_
    apply Es_nil
    refine k_ca (hc) ?_
    apply X_nilP
    exact k_wl w ⟨rfl, rfl⟩
  obtain ⟨_, _, w2, rfl, rfl⟩ | ⟨_, _, _, f⟩ := this
  ·exact ⟨_, _, p', e, w2, a1, a2, a3, a4, u1.then a5 u1.1⟩
  ·exact f.elim
theorem rights_ok {p : List Nat} (tr : TreeAt T lo t es) (r : Rch es p) : CaP c T 336 [.ref t, .str p] (d + 4) fun v T' => ∃ r, v = .ref r ∧ T'.get r = some (.dict [(.str [42], .str acdrw)] 1) ∧ Upd T.n All T T' := by
 refine C_funQ ok (l := [(1717990261, _), (1769300593, _)]) (tF hG rfl) rfl fun Qz hQ => ?_
 obtain ⟨loc', T', p', e, w, a1, a2, a3, a4, a5⟩ := rights_loop ok hG (d := d) r T [(1717990261, .ref t), (1769300593, .str p)] tr rfl rfl
 obtain ⟨r, he, ge⟩ := entry_yes ok hG (d := d + 2) (tr.all a5) a3
 obtain ⟨dr, ep, xs, t3, hx⟩ := tr.all a5
 have ht := t3.ht
 have hr : lk c.G.top 133 = some [.obj 132] := by rw [hG]; rfl
 have hr2 : lk c.G.top 132 = some [.str [42], .str acdrw] := by rw [hG]; rfl
 apply X_consP
 apply S_whl
 refine k_wl (w) ?_
 apply X_consP
 apply S_ret
 refine E_callB ok (tG hG rfl) (by first | exact .inl ⟨_, rfl⟩ | exact .inr ⟨_, rfl⟩) ?_
 apply Es_cons
 apply E_attr ok
 apply E_lm ok
 exact a1
 ·(with_reducible repeat' first|assumption|exact get_new _ _|apply get_put|apply get_old|refine get_nf (by assumption) ?_|apply get_kd|with_unfolding_all rfl)
 exact tM hG rfl
 exact rfl
 refine Es_loc a2 ?_
 apply Es_nil
 refine k_ca (he) ?_
 apply k_at2
 ·(with_reducible repeat' first|assumption|exact get_new _ _|apply get_put|apply get_old|refine get_nf (by assumption) ?_|apply get_kd|with_unfolding_all rfl)
 exact tA hG rfl
 exact rfl
 apply Es_nil
 refine k_bc (by rw [a4]; exact B_dictO ok hr hr2) ?_
 apply hQ
 exact ⟨_, rfl, get_new _ _, a5.new⟩
theorem may_ok {p u : List Nat} {x : Nat} (tr : TreeAt T lo t es) (r : Rch es p) (hu : u ≠ [42]) (hx : acdrw.contains x = true) : CaP c T 343 [.ref t, .str p, .str u, .str [x]] (d + 5) fun v T' => v = .bool true ∧ Upd T.n All T T' := by
 refine C_funQ ok (l := [(1717990261, _), (1769300593, _), (1936094326, _), (126883894486637, _)]) (tF hG rfl) rfl fun Qz hQ => ?_
 obtain ⟨_, T1, h1, r, rfl, g1, u1⟩ := rights_ok ok hG (d := d) tr r
 apply X_consP
 apply S_asg
 refine E_callF ok (tG hG rfl) (tF hG rfl) ?_
 refine Es_loc rfl ?_
 refine Es_loc rfl ?_
 apply Es_nil
 refine k_ca (h1) ?_
 apply X_consP
 apply S_ret
 apply E_cmp
 refine E_loc rfl ?_
 apply E_bin
 apply E_methB
 refine E_loc rfl ?_
 refine k_bg ((G_get (by (with_reducible repeat' first|assumption|exact get_new _ _|apply get_put|apply get_old|refine get_nf (by assumption) ?_|apply get_kd|with_unfolding_all rfl)))) ?_
 refine Es_loc rfl ?_
 apply Es_cons
 apply E_str
 apply Es_nil
 refine k_bm (M_get0 g1 rfl (if_neg fun e => hu (of_decide_eq_true e).symm)) ?_
 apply E_methB
 refine E_loc rfl ?_
 refine k_bg ((G_get (by (with_reducible repeat' first|assumption|exact get_new _ _|apply get_put|apply get_old|refine get_nf (by assumption) ?_|apply get_kd|with_unfolding_all rfl)))) ?_
 apply Es_cons
 apply E_str
 apply Es_cons
 apply E_str
 apply Es_nil
 refine k_bm (M_get1 g1 rfl rfl) ?_
 refine k_bi (B_addS (lb rfl)) ?_
 refine k_cm _ (cmt C_inS hx) ?_
 apply hQ
 exact ⟨rfl, u1⟩
theorem need_right_ok {p u : List Nat} {x : Nat} (tr : TreeAt T lo t es) (r : Rch es p) (hu : u ≠ [42]) (hx : acdrw.contains x = true) : CaP c T 350 [.ref t, .str p, .str u, .str [x]] (d + 6) fun v T' => v = .none ∧ Upd T.n All T T' := by
 refine C_funQ ok (l := [(1717990261, _), (1769300593, _), (1936094326, _), (126883894486637, _)]) (tF hG rfl) rfl fun Qz hQ => ?_
 obtain ⟨_, T1, h1, rfl, u1⟩ := may_ok ok hG (d := d) tr r hu hx
 apply X_consP
 apply S_if
 apply T_notP
 refine T_plainP rfl ?_
 refine E_callF ok (tG hG rfl) (tF hG rfl) ?_
 refine Es_loc rfl ?_
 refine Es_loc rfl ?_
 refine Es_loc rfl ?_
 refine Es_loc rfl ?_
 apply Es_nil
 refine k_ca (h1) ?_
 apply k_bl
 apply X_nilP
 apply X_nilP
 apply hQ
 exact ⟨rfl, u1⟩
theorem need_rights_ok : Ca c 329 [.none] (d + 1) T .none T := by
 have : CaP c T 329 [.none] (d + 1) fun u T' => u = .none ∧ T' = T := by
  refine C_funQ ok (l := [(128047628446323, _)]) (tF hG rfl) rfl fun Qz hQ => ?_
  apply X_consP
  apply S_if
  apply T_cmpP
  refine E_loc rfl ?_
  apply E_none
  refine k_cm true (by first | exact C_is0 | exact C_is1 rfl | exact C_isT) ?_
  apply X_consP
  apply S_ret
  apply E_none
  apply hQ
  exact ⟨rfl, rfl⟩
 obtain ⟨_, _, h, rfl, rfl⟩ := this
 exact h
end
noncomputable def upX (p : List Nat) (f : En → En) (xs : List Nd) : List Nd := xs.map fun x => if x.p = p then ⟨x.p, x.r, f x.e⟩ else x
noncomputable def upE (p : List Nat) (f : En → En) (es : Es) : Es := es.map fun x => if x.1 = p then (x.1, f x.2) else x
noncomputable def bump (num : Bool) (e : En) : En := { e with kids := e.kids + 1, cnt := cond num (e.cnt + 1) e.cnt }
theorem upX_map {β : Type} {g : Nd → β} {p : List Nat} {f : En → En} (h : ∀ x, g ⟨x.p, x.r, f x.e⟩ = g x) (xs : List Nd) : (upX p f xs).map g = xs.map g := by
 unfold upX; rw [List.map_map]
 exact List.map_congr_left fun x _ => by
  show g (if x.p = p then _ else _) = _
  split
  ·exact h x
  ·rfl
theorem upX_pe {p : List Nat} {f : En → En} (xs : List Nd) : (upX p f xs).map Nd.pe = upE p f (xs.map Nd.pe) := by
 unfold upX upE; rw [List.map_map, List.map_map]
 exact List.map_congr_left fun x _ => by
  show Nd.pe (if x.p = p then _ else _) = if x.p = p then _ else _
  split <;> rfl
theorem Nd.sameP {xs : List Nd} (nd : (xs.map Nd.p).Nodup) {x y : Nd} (hx : x ∈ xs) (hy : y ∈ xs) (e : x.p = y.p) : x = y := by
 induction xs with
 | nil => cases hx
 | cons z xs ih =>
  have nd := List.nodup_cons.mp nd
  cases hx with
  | head => cases hy with
   | head => rfl
   | tail _ m => exact absurd (e ▸ List.mem_map_of_mem m) nd.1
  | tail _ m => cases hy with
   | head => exact absurd (e ▸ List.mem_map_of_mem m) nd.1
   | tail _ m2 => exact ih nd.2 m m2
section
variable {T T' : Hp} {lo t dr ep : Nat} {xs : List Nd}
theorem Tree3.mod (t3 : Tree3 T lo t dr ep xs) {x : Nd} (m : x ∈ xs) (f : En → En) (g : T'.get x.r = some (f x.e).ob) (o : ∀ a, a ≠ x.r → T'.get a = T.get a) : Tree3 T' lo t dr ep (upX x.p f xs) := by
 have gx := t3.he x m
 refine ⟨?_, ?_, fun y my => ?_, t3.lt, t3.ld, fun y my => ?_, ?_, ?_, ?_⟩
 ·rw [o _ (ne_kd gx t3.ht rfl)]; exact t3.ht
 ·rw [upX_map (fun _ => rfl), o _ (ne_kd gx t3.hd rfl)]; exact t3.hd
 ·obtain ⟨z, mz, rfl⟩ := List.mem_map.mp my
  by_cases e : z.p = x.p
  ·cases Nd.sameP t3.np mz m e
   rw [if_pos rfl]; exact g
  ·rw [if_neg e, o _ fun q => e (congrArg Nd.p (Nd.sameR t3.nr mz m q))]
   exact t3.he z mz
 ·obtain ⟨z, mz, rfl⟩ := List.mem_map.mp my
  have := t3.le z mz
  split
  ·exact this
  ·exact this
 ·rw [upX_map (fun _ => rfl)]; exact t3.nr
 ·rw [upX_map (fun _ => rfl)]; exact t3.np
 ·unfold upX; rw [List.length_map]; exact t3.sz
theorem Tree3.add (t3 : Tree3 T lo t dr ep xs) {p : List Nat} {r : Nat} {e : En} (np : p ∉ xs.map Nd.p) (g : T.get r = some e.ob) (fr : ∀ x ∈ xs, x.r ≠ r) (lr : lo ≤ r) (sz : xs.length < 59) : Tree3 (hput T dr (.dict (dpt (.str p) (.ref r) (xs.map Nd.dc)) (epS (.str p) (xs.map Nd.dc) ep))) lo t dr (ep + 1) (xs ++ [⟨p, r, e⟩]) := by
 refine ⟨get_kd t3.hd t3.ht rfl, ?_, fun y m => ?_, t3.lt, t3.ld, fun y m => ?_, ?_, ?_, ?_⟩
 ·rw [← dpt_new e np, ← ep_new np]; exact get_put t3.hd
 ·rcases List.mem_append.mp m with m | m
  ·exact get_kd t3.hd (t3.he y m) rfl
  ·cases List.mem_singleton.mp m; exact get_kd t3.hd g rfl
 ·rcases List.mem_append.mp m with m | m
  ·exact t3.le y m
  ·cases List.mem_singleton.mp m; exact lr
 ·rw [List.map_append, List.nodup_append]
  refine ⟨t3.nr, nd1, fun a ha b hb => ?_⟩
  obtain ⟨y, m, rfl⟩ := List.mem_map.mp ha
  cases List.mem_singleton.mp hb
  exact fr y m
 ·rw [List.map_append, List.nodup_append]
  refine ⟨t3.np, nd1, fun a ha b hb => ?_⟩
  cases List.mem_singleton.mp hb
  exact fun q => np ((show a = p from q) ▸ ha)
 ·rw [List.length_append]; exact Nat.succ_lt_succ sz
end
noncomputable def KT (lo : Nat) : Nat → AO → Prop := fun r a => r < lo ∨ (Nat.beq (kd a) 0 = false ∧ Nat.beq (kd a) (164 + 6) = false)
theorem KT.noE {lo r : Nat} {e : En} (h : lo ≤ r) : ¬ KT lo r e.ob := fun k => k.elim (fun q => Nat.not_lt_of_le h q) fun q => Bool.noConfusion q.2
theorem KT.noD {lo r ep : Nat} {es : List (AV × AV)} (h : lo ≤ r) : ¬ KT lo r (.dict es ep) := fun k => k.elim (fun q => Nat.not_lt_of_le h q) fun q => Bool.noConfusion q.1
noncomputable def setE (dt : AV) (rev : Int) (e : En) : En := { e with data := dt, ver := e.ver + 1, chg := rev }
inductive Ch where
 | create (p : List Nat) (dt ow le ri : AV) (num : Bool)
 | set (p : List Nat) (dt : AV)
noncomputable def ChAt (T : Hp) (r : Nat) (ch : Ch) : Prop := match ch with
 | .create p dt ow le ri num => ∃ g, T.get r = some (.tuple [.str [99, 114, 101, 97, 116, 101], .str p, .ref g]) ∧ T.get g = some (.tuple [dt, ow, le, ri, .bool num])
 | .set p dt => T.get r = some (.tuple [.str [115, 101, 116], .str p, dt])
noncomputable def appE (rev : Int) (es : Es) (ch : Ch) : Es := match ch with
 | .create p dt ow le ri num => upE (parL p) (bump num) es ++ [(p, ⟨dt, 0, 0, ow, le, ri, 0, rev, rev⟩)]
 | .set p dt => upE p (setE dt rev) es
noncomputable def okC (es : Es) (ch : Ch) : Prop := match ch with
 | .create p dt ow le ri num => OkP p ∧ p ≠ [47] ∧ p ∉ es.map (·.1) ∧ es.length < 59 ∧ ∃ e, (parL p, e) ∈ es ∧ e.own = .none ∧ e.lea = .none ∧ num = false
 | .set p dt => ∃ e, (p, e) ∈ es
section
variable {c : Cx} (ok : Ok c) (hG : c.G = G) {d lo t dr ep : Nat} {T : Hp} {xs : List Nd} {es : Es}
include ok hG
theorem create3 {p : List Nat} {dt ow le ri : AV} {num : Bool} {rev : Int} {g : Nat} (tr : TreeAt T lo t es) (hg : T.get g = some (.tuple [dt, ow, le, ri, .bool num])) (h : okC es (.create p dt ow le ri num)) (ln : lo ≤ T.n) (l1 : 1 ≤ lo) : CaP c T 230 [.ref t, .int rev, .str p, .ref g] (d + 4) fun u T' => u = .none ∧ TreeAt T' lo t (appE rev es (.create p dt ow le ri num)) ∧ Upd T.n (KT lo) T T' := by
 obtain ⟨hp, ne, np, sz, e, me, ho, hl, hnum⟩ := h
 have hh := has_no ok hG (d := d + 2) tr np
 obtain ⟨_, T1, h1, rfl, u1⟩ := parent_ok ok hG (d := d + 1) (T := T) hp ne
 obtain ⟨dr, ep, xs, t3, rfl⟩ := tr
 obtain ⟨x, mx, q⟩ := List.mem_map.mp me
 obtain ⟨xp, xr, xe⟩ := x
 cases q
 have ta := t3.all u1
 have h2 := entry3 ok hG (d := d + 2) ta mx
 have ht := t3.ht
 have ht1 := ta.ht
 have hd1 := ta.hd
 have ge := ta.he _ mx
 have lx := t3.le _ mx
 have lx1 : 1 ≤ xr := Nat.le_trans l1 lx
 have ld1 : 1 ≤ dr := Nat.le_trans l1 t3.ld
 have hg1 := u1.get trivial hg
 rw [List.map_map] at np
 rw [List.length_map] at sz
 have ux : Upd T.n (KT lo) T T1 := u1.a
 have fin : ∀ {T2 T3 : Hp}, T2.get xr = some (bump num xe).ob → (∀ a, a ≠ xr → T2.get a = T1.get a) → T2.n = T1.n → T3.get T2.n = some (En.ob ⟨dt, 0, 0, ow, le, ri, 0, rev, rev⟩) → Upd T2.n All T2 T3 → Upd T.n (KT lo) T T2 → T3.get dr = some (.dict (xs.map Nd.dc) ep) ∧ TreeAt (hput T3 dr (.dict (dpt (.str p) (.ref T2.n) (xs.map Nd.dc)) (epS (.str p) (xs.map Nd.dc) ep))) lo t (appE rev (xs.map Nd.pe) (.create p dt ow le ri num)) ∧ Upd T.n (KT lo) T (hput T3 dr (.dict (dpt (.str p) (.ref T2.n) (xs.map Nd.dc)) (epS (.str p) (xs.map Nd.dc) ep))) := by
  intro T2 T3 g2 o2 n2 g3 u3 ux2
  have tb := ta.mod mx (bump num) g2 o2
  have tc := tb.all u3
  have td := tc.add (p := p) (by rw [upX_map (fun _ => rfl)]; exact np) g3 (fun y m => Nat.ne_of_lt (lt_of_get (tb.he y m))) (by rw [n2]; exact Nat.le_trans ln u1.1) (by unfold upX; rw [List.length_map]; exact sz)
  have hd := tc.hd
  rw [upX_map (fun _ => rfl)] at td hd
  refine ⟨hd, ⟨dr, _, _, td, ?_⟩, ?_⟩
  ·rw [List.map_append, upX_pe]; rfl
  ·exact (ux2.then u3.a (by rw [n2]; exact u1.1)).set (fun _ => KT.noD t3.ld) t3.hd
 refine C_funL ok (l := [(1735222900, _), (8030035183836554867, _), (1769300593, _), (478460471912, _)]) (tF hG rfl) rfl fun lz hz Qz hQ => ?_
 have hz0 := hz 1735222900 _ rfl
 have hz1 := hz 8030035183836554867 _ rfl
 have hz2 := hz 1769300593 _ rfl
 have hz3 := hz 478460471912 _ rfl
 clear hz
 ·subst hnum
  obtain ⟨_, T3, h3, rfl, g3, u3, n3⟩ := entry_init ok hG (d := d + 1) (T := hput T1 xr (En.ob (bump false xe))) (dt := dt) (ow := ow) (le := le) (ri := ri) (ma := rev) (Nat.le_trans (Nat.le_trans l1 ln) u1.1)
  obtain ⟨hd3, tf, uf⟩ := fin (get_put ge) (fun a ne => get_off T1 ne) rfl g3 u3 (ux.set (fun _ => KT.noE lx) (t3.he _ mx))
  have ht3 : T3.get t = some (trOb dr) := u3.get trivial (get_kd ge ht1 rfl)
  apply X_consP
  apply S_asgT
  refine E_loc (by with_reducible repeat' first|assumption|exact lk_same|apply lk_else|apply lk_drop|with_unfolding_all rfl) ?_
  refine k_tu (by first|exact .inl (by (with_reducible repeat' first|assumption|exact get_new _ _|apply get_put|apply get_old|refine get_nf (by assumption) ?_|apply get_kd|with_unfolding_all rfl))|exact .inr (by (with_reducible repeat' first|assumption|exact get_new _ _|apply get_put|apply get_old|refine get_nf (by assumption) ?_|apply get_kd|with_unfolding_all rfl))) rfl ?_
  apply X_consP
  apply S_if
  refine T_plainP rfl ?_
  apply E_lm ok
  exact (by with_reducible repeat' first|assumption|exact lk_same|apply lk_else|apply lk_drop|with_unfolding_all rfl)
  ·(with_reducible repeat' first|assumption|exact get_new _ _|apply get_put|apply get_old|refine get_nf (by assumption) ?_|apply get_kd|with_unfolding_all rfl)
  exact tM hG rfl
  exact rfl
  refine Es_loc (by with_reducible repeat' first|assumption|exact lk_same|apply lk_else|apply lk_drop|with_unfolding_all rfl) ?_
  apply Es_nil
  refine k_ca (hh) ?_
  apply k_bl
  apply X_nilP
  apply X_consP
  apply S_asg
  apply E_lm ok
  exact (by with_reducible repeat' first|assumption|exact lk_same|apply lk_else|apply lk_drop|with_unfolding_all rfl)
  ·(with_reducible repeat' first|assumption|exact get_new _ _|apply get_put|apply get_old|refine get_nf (by assumption) ?_|apply get_kd|with_unfolding_all rfl)
  exact tM hG rfl
  exact rfl
  apply Es_cons
  refine E_callF ok (tG hG rfl) (tF hG rfl) ?_
  refine Es_loc (by with_reducible repeat' first|assumption|exact lk_same|apply lk_else|apply lk_drop|with_unfolding_all rfl) ?_
  apply Es_nil
  refine k_ca (h1) ?_
  apply Es_nil
  refine k_ca (h2) ?_
  apply X_consP
  apply S_if
  apply T_orP
  apply Ts_goP
  apply T_cmpP
  apply E_la ok
  exact (by with_reducible repeat' first|assumption|exact lk_same|apply lk_else|apply lk_drop|with_unfolding_all rfl)
  ·(with_reducible repeat' first|assumption|exact get_new _ _|apply get_put|apply get_old|refine get_nf (by assumption) ?_|apply get_kd|with_unfolding_all rfl)
  exact tA hG rfl
  exact rfl
  apply E_none
  refine k_cm false (by rw [ho]; exact C_isnt0) ?_
  apply k_ye
  apply Ts_goP
  apply T_cmpP
  apply E_la ok
  exact (by with_reducible repeat' first|assumption|exact lk_same|apply lk_else|apply lk_drop|with_unfolding_all rfl)
  ·(with_reducible repeat' first|assumption|exact get_new _ _|apply get_put|apply get_old|refine get_nf (by assumption) ?_|apply get_kd|with_unfolding_all rfl)
  exact tA hG rfl
  exact rfl
  apply E_none
  refine k_cm false (by rw [hl]; exact C_isnt0) ?_
  apply k_ye
  apply Ts_nilP
  apply X_nilP
  apply X_consP
  apply S_asgL ok
  apply E_bin
  apply E_la ok
  exact (by with_reducible repeat' first|assumption|exact lk_same|apply lk_else|apply lk_drop|with_unfolding_all rfl)
  ·(with_reducible repeat' first|assumption|exact get_new _ _|apply get_put|apply get_old|refine get_nf (by assumption) ?_|apply get_kd|with_unfolding_all rfl)
  exact tA hG rfl
  exact rfl
  apply E_int
  refine k_bi (B_addI) ?_
  apply k_al
  exact (by with_reducible repeat' first|assumption|exact lk_same|apply lk_else|apply lk_drop|with_unfolding_all rfl)
  ·(with_reducible repeat' first|assumption|exact get_new _ _|apply get_put|apply get_old|refine get_nf (by assumption) ?_|apply get_kd|with_unfolding_all rfl)
  exact tA hG rfl
  exact lb rfl
  first | assumption | exact Nat.le_add_left 1 _ | exact lb rfl
  apply X_consP
  apply S_if
  refine T_plainP rfl ?_
  refine E_loc (by with_reducible repeat' first|assumption|exact lk_same|apply lk_else|apply lk_drop|with_unfolding_all rfl) ?_
  apply k_bl
  apply X_nilP
  apply X_consP
  apply S_asgS
  refine E_new ok (tG hG rfl) (tC hG rfl) rfl ?_
  refine Es_loc (by with_reducible repeat' first|assumption|exact lk_same|apply lk_else|apply lk_drop|with_unfolding_all rfl) ?_
  refine Es_loc (by with_reducible repeat' first|assumption|exact lk_same|apply lk_else|apply lk_drop|with_unfolding_all rfl) ?_
  refine Es_loc (by with_reducible repeat' first|assumption|exact lk_same|apply lk_else|apply lk_drop|with_unfolding_all rfl) ?_
  refine Es_loc (by with_reducible repeat' first|assumption|exact lk_same|apply lk_else|apply lk_drop|with_unfolding_all rfl) ?_
  refine Es_loc (by with_reducible repeat' first|assumption|exact lk_same|apply lk_else|apply lk_drop|with_unfolding_all rfl) ?_
  apply Es_nil
  refine k_ca (h3) ?_
  apply k_no
  apply E_la ok
  exact (by with_reducible repeat' first|assumption|exact lk_same|apply lk_else|apply lk_drop|with_unfolding_all rfl)
  exact ht3
  exact tA hG rfl
  exact rfl
  refine E_loc (by with_reducible repeat' first|assumption|exact lk_same|apply lk_else|apply lk_drop|with_unfolding_all rfl) ?_
  apply k_dp
  exact hd3
  exact kOk_dc
  rw [List.length_map]; exact lt4 (Nat.le_of_lt sz) rfl
  first | assumption | exact Nat.le_add_left 1 _ | exact lb rfl
  apply X_nilP
  apply hQ
  exact ⟨rfl, tf, uf⟩
end
section
variable {c : Cx} (ok : Ok c) (hG : c.G = G) {d lo t dr ep : Nat} {T : Hp} {xs : List Nd} {es : Es}
include ok hG
theorem apply_ok {ch : Ch} {rev : Int} {cr : Nat} (tr : TreeAt T lo t es) (hc : ChAt T cr ch) (h : okC es ch) (ln : lo ≤ T.n) (l1 : 1 ≤ lo) : CaP c T 223 [.ref t, .int rev, .ref cr] (d + 5) fun u T' => u = .none ∧ TreeAt T' lo t (appE rev es ch) ∧ Upd T.n (KT lo) T T' := by
 obtain ⟨dr, ep, xs, t3, hx⟩ := id tr
 have ht := t3.ht
 cases ch with
 | create p dt ow le ri num =>
  obtain ⟨g, hc, hg⟩ := hc
  obtain ⟨_, T1, h1, rfl, t1, u1⟩ := create3 ok hG (d := d) (rev := rev) (T := hnew T (.tuple [.str [99, 114, 101, 97, 116, 101], .str p])) (tr.all Upd.refl.new) (get_old hg) h (Nat.le_succ_of_le ln) l1
  refine C_funL ok (l := [(1735222900, _), (8030035183836554867, _), (112598731352420, _)]) (tF hG rfl) rfl fun lz hz Qz hQ => ?_
  have hz0 := hz 1735222900 _ rfl
  have hz1 := hz 8030035183836554867 _ rfl
  have hz2 := hz 112598731352420 _ rfl
  clear hz
  apply X_consP
  apply S_asgW
  apply E_tuple
  apply Es_cons
  apply E_sub
  refine E_loc (by with_reducible repeat' first|assumption|exact lk_same|apply lk_else|apply lk_drop|with_unfolding_all rfl) ?_
  apply E_int
  refine k_it (by first|exact I_tuple (j := 0) (by (with_reducible repeat' first|assumption|exact get_new _ _|apply get_put|apply get_old|refine get_nf (by assumption) ?_|apply get_kd|with_unfolding_all rfl)) rfl (lb rfl)|exact I_list (j := 0) (by (with_reducible repeat' first|assumption|exact get_new _ _|apply get_put|apply get_old|refine get_nf (by assumption) ?_|apply get_kd|with_unfolding_all rfl)) rfl (lb rfl)) ?_
  apply Es_cons
  apply E_sub
  refine E_loc (by with_reducible repeat' first|assumption|exact lk_same|apply lk_else|apply lk_drop|with_unfolding_all rfl) ?_
  apply E_int
  refine k_it (by first|exact I_tuple (j := 1) (by (with_reducible repeat' first|assumption|exact get_new _ _|apply get_put|apply get_old|refine get_nf (by assumption) ?_|apply get_kd|with_unfolding_all rfl)) rfl (lb rfl)|exact I_list (j := 1) (by (with_reducible repeat' first|assumption|exact get_new _ _|apply get_put|apply get_old|refine get_nf (by assumption) ?_|apply get_kd|with_unfolding_all rfl)) rfl (lb rfl)) ?_
  apply Es_nil
  refine k_sh (lb rfl) ?_
  apply k_tw
  ·(with_reducible repeat' first|assumption|exact get_new _ _|apply get_put|apply get_old|refine get_nf (by assumption) ?_|apply get_kd|with_unfolding_all rfl)
  exact rfl
  apply X_consP
  apply S_if
  apply T_cmpP
  refine E_loc (by with_reducible repeat' first|assumption|exact lk_same|apply lk_else|apply lk_drop|with_unfolding_all rfl) ?_
  apply E_str
  refine k_cm true (C_eq rfl) ?_
  apply X_consP
  apply S_expr
  apply E_lm ok
  exact (by with_reducible repeat' first|assumption|exact lk_same|apply lk_else|apply lk_drop|with_unfolding_all rfl)
  ·(with_reducible repeat' first|assumption|exact get_new _ _|apply get_put|apply get_old|refine get_nf (by assumption) ?_|apply get_kd|with_unfolding_all rfl)
  exact tM hG rfl
  exact rfl
  refine Es_loc (by with_reducible repeat' first|assumption|exact lk_same|apply lk_else|apply lk_drop|with_unfolding_all rfl) ?_
  refine Es_loc (by with_reducible repeat' first|assumption|exact lk_same|apply lk_else|apply lk_drop|with_unfolding_all rfl) ?_
  apply Es_cons
  apply E_sub
  refine E_loc (by with_reducible repeat' first|assumption|exact lk_same|apply lk_else|apply lk_drop|with_unfolding_all rfl) ?_
  apply E_int
  refine k_it (by first|exact I_tuple (j := 2) (by (with_reducible repeat' first|assumption|exact get_new _ _|apply get_put|apply get_old|refine get_nf (by assumption) ?_|apply get_kd|with_unfolding_all rfl)) rfl (lb rfl)|exact I_list (j := 2) (by (with_reducible repeat' first|assumption|exact get_new _ _|apply get_put|apply get_old|refine get_nf (by assumption) ?_|apply get_kd|with_unfolding_all rfl)) rfl (lb rfl)) ?_
  apply Es_nil
  refine k_ca (h1) ?_
  apply X_nilP
  apply X_nilP
  apply hQ
  exact ⟨rfl, t1, Upd.refl.new.then u1 (Nat.le_succ _)⟩
 | set p dt =>
  obtain ⟨e, me⟩ := h
  have hc : T.get cr = some (.tuple [.str [115, 101, 116], .str p, dt]) := hc
  obtain ⟨x, mx, q⟩ := List.mem_map.mp (hx ▸ me)
  obtain ⟨xp, xr, xe⟩ := x
  cases q
  have t4 := t3.all (Upd.refl.new (o := .tuple [.str [115, 101, 116], .str xp]))
  have h1 := entry3 ok hG (d := d + 3) t4 mx
  have ge := t4.he _ mx
  have lx1 : 1 ≤ xr := Nat.le_trans l1 (t3.le _ mx)
  have hc2 : (hnew T (.tuple [.str [115, 101, 116], .str xp])).get cr = some (.tuple [.str [115, 101, 116], .str xp, dt]) := get_old hc
  refine C_funL ok (l := [(1735222900, _), (8030035183836554867, _), (112598731352420, _)]) (tF hG rfl) rfl fun lz hz Qz hQ => ?_
  have hz0 := hz 1735222900 _ rfl
  have hz1 := hz 8030035183836554867 _ rfl
  have hz2 := hz 112598731352420 _ rfl
  clear hz
  apply X_consP
  apply S_asgW
  apply E_tuple
  apply Es_cons
  apply E_sub
  refine E_loc (by with_reducible repeat' first|assumption|exact lk_same|apply lk_else|apply lk_drop|with_unfolding_all rfl) ?_
  apply E_int
  refine k_it (by first|exact I_tuple (j := 0) (by (with_reducible repeat' first|assumption|exact get_new _ _|apply get_put|apply get_old|refine get_nf (by assumption) ?_|apply get_kd|with_unfolding_all rfl)) rfl (lb rfl)|exact I_list (j := 0) (by (with_reducible repeat' first|assumption|exact get_new _ _|apply get_put|apply get_old|refine get_nf (by assumption) ?_|apply get_kd|with_unfolding_all rfl)) rfl (lb rfl)) ?_
  apply Es_cons
  apply E_sub
  refine E_loc (by with_reducible repeat' first|assumption|exact lk_same|apply lk_else|apply lk_drop|with_unfolding_all rfl) ?_
  apply E_int
  refine k_it (by first|exact I_tuple (j := 1) (by (with_reducible repeat' first|assumption|exact get_new _ _|apply get_put|apply get_old|refine get_nf (by assumption) ?_|apply get_kd|with_unfolding_all rfl)) rfl (lb rfl)|exact I_list (j := 1) (by (with_reducible repeat' first|assumption|exact get_new _ _|apply get_put|apply get_old|refine get_nf (by assumption) ?_|apply get_kd|with_unfolding_all rfl)) rfl (lb rfl)) ?_
  apply Es_nil
  refine k_sh (lb rfl) ?_
  apply k_tw
  ·(with_reducible repeat' first|assumption|exact get_new _ _|apply get_put|apply get_old|refine get_nf (by assumption) ?_|apply get_kd|with_unfolding_all rfl)
  exact rfl
  apply X_consP
  apply S_if
  apply T_cmpP
  refine E_loc (by with_reducible repeat' first|assumption|exact lk_same|apply lk_else|apply lk_drop|with_unfolding_all rfl) ?_
  apply E_str
  refine k_cm false (C_eq rfl) ?_
  apply X_consP
  apply S_if
  apply T_cmpP
  refine E_loc (by with_reducible repeat' first|assumption|exact lk_same|apply lk_else|apply lk_drop|with_unfolding_all rfl) ?_
  apply E_str
  refine k_cm true (C_eq rfl) ?_
  apply X_consP
  apply S_asg
  apply E_lm ok
  exact (by with_reducible repeat' first|assumption|exact lk_same|apply lk_else|apply lk_drop|with_unfolding_all rfl)
  ·(with_reducible repeat' first|assumption|exact get_new _ _|apply get_put|apply get_old|refine get_nf (by assumption) ?_|apply get_kd|with_unfolding_all rfl)
  exact tM hG rfl
  exact rfl
  refine Es_loc (by with_reducible repeat' first|assumption|exact lk_same|apply lk_else|apply lk_drop|with_unfolding_all rfl) ?_
  apply Es_nil
  refine k_ca (h1) ?_
  apply X_consP
  apply S_asgL ok
  apply E_sub
  refine E_loc (by with_reducible repeat' first|assumption|exact lk_same|apply lk_else|apply lk_drop|with_unfolding_all rfl) ?_
  apply E_int
  refine k_it (by first|exact I_tuple (j := 2) (by (with_reducible repeat' first|assumption|exact get_new _ _|apply get_put|apply get_old|refine get_nf (by assumption) ?_|apply get_kd|with_unfolding_all rfl)) rfl (lb rfl)|exact I_list (j := 2) (by (with_reducible repeat' first|assumption|exact get_new _ _|apply get_put|apply get_old|refine get_nf (by assumption) ?_|apply get_kd|with_unfolding_all rfl)) rfl (lb rfl)) ?_
  apply k_al
  exact (by with_reducible repeat' first|assumption|exact lk_same|apply lk_else|apply lk_drop|with_unfolding_all rfl)
  ·(with_reducible repeat' first|assumption|exact get_new _ _|apply get_put|apply get_old|refine get_nf (by assumption) ?_|apply get_kd|with_unfolding_all rfl)
  exact tA hG rfl
  exact lb rfl
  first | assumption | exact Nat.le_add_left 1 _ | exact lb rfl
  apply X_consP
  apply S_asgL ok
  apply E_bin
  apply E_la ok
  exact (by with_reducible repeat' first|assumption|exact lk_same|apply lk_else|apply lk_drop|with_unfolding_all rfl)
  ·(with_reducible repeat' first|assumption|exact get_new _ _|apply get_put|apply get_old|refine get_nf (by assumption) ?_|apply get_kd|with_unfolding_all rfl)
  exact tA hG rfl
  exact rfl
  apply E_int
  refine k_bi (B_addI) ?_
  apply k_al
  exact (by with_reducible repeat' first|assumption|exact lk_same|apply lk_else|apply lk_drop|with_unfolding_all rfl)
  ·(with_reducible repeat' first|assumption|exact get_new _ _|apply get_put|apply get_old|refine get_nf (by assumption) ?_|apply get_kd|with_unfolding_all rfl)
  exact tA hG rfl
  exact lb rfl
  first | assumption | exact Nat.le_add_left 1 _ | exact lb rfl
  apply X_consP
  apply S_asgL ok
  refine E_loc (by with_reducible repeat' first|assumption|exact lk_same|apply lk_else|apply lk_drop|with_unfolding_all rfl) ?_
  apply k_al
  exact (by with_reducible repeat' first|assumption|exact lk_same|apply lk_else|apply lk_drop|with_unfolding_all rfl)
  ·(with_reducible repeat' first|assumption|exact get_new _ _|apply get_put|apply get_old|refine get_nf (by assumption) ?_|apply get_kd|with_unfolding_all rfl)
  exact tA hG rfl
  exact lb rfl
  first | assumption | exact Nat.le_add_left 1 _ | exact lb rfl
  apply X_nilP
  apply X_nilP
  apply X_nilP
  apply hQ
  refine ⟨rfl, ⟨dr, ep, _, t4.mod mx (setE dt rev) (get_put (get_put (get_put ge))) (fun a ne => (get_off _ ne).trans ((get_off _ ne).trans (get_off _ ne))), by rw [upX_pe, hx]; rfl⟩, ((Upd.refl.new.set (fun _ => KT.noE (t3.le _ mx)) (t3.he _ mx)).set (fun _ => KT.noE (t3.le _ mx)) (t3.he _ mx)).set (fun _ => KT.noE (t3.le _ mx)) (t3.he _ mx)⟩
end
structure SF where
 tree : Nat
 log : Nat
 tick : Int
 rev : Int
 ses : Nat
 lea : Nat
 wat : Nat
 cnt : Int
 keep : Int
noncomputable abbrev SF.ob (f : SF) : AO := .inst 720 [(1717990261, .ref f.tree), (6844525, .ref f.log), (1902536300, .int f.keep), (1818520181, .int f.tick), (8030035183836554867, .int f.rev), (8390048233337153140, .ref f.ses), (127983388092013, .ref f.lea), (32763700141449848, .ref f.wat), (504381206628, .int f.cnt)]
structure Sn where
 num : Int
 r : Nat
 u : List Nat
 tmo : Int
noncomputable abbrev Sn.dc (x : Sn) : AV × AV := (.int x.num, .ref x.r)
noncomputable abbrev Sn.ob (x : Sn) (h : Int) : AO := .inst 374 [(126883592042095, .int x.num), (1936094326, .str x.u), (33062797402073717, .int x.tmo), (435727525481, .int h)]
theorem dlk_ses {x : Sn} {ss : List Sn} (m : x ∈ ss) (nd : (ss.map Sn.num).Nodup) : dlk (.int x.num) (ss.map Sn.dc) = some (.ref x.r) := by
 induction ss with
 | nil => cases m
 | cons y ss ih =>
  show (if decide (y.num = x.num) = true then _ else _) = _
  have nd := List.nodup_cons.mp nd
  cases m with
  | head => rw [if_pos (decide_eq_true rfl)]
  | tail _ m =>
   have n : y.num ≠ x.num := fun e => nd.1 (e ▸ List.mem_map_of_mem m)
   rw [if_neg fun e => n (of_decide_eq_true e)]
   exact ih m nd.2
theorem kOk_ses {n : Int} {ss : List Sn} : kOk (.int n) (ss.map Sn.dc) = true := by cases ss <;> rfl
noncomputable def KD (lo cl : Nat) : Nat → AO → Prop := fun r a => r ≠ cl ∧ KT lo r a
theorem KD.of {n lo cl : Nat} {T T' : Hp} (u : Upd n (KT lo) T T') : Upd n (KD lo cl) T T' := u.weak (Nat.le_refl _) fun _ _ p => p.2
section
variable {c : Cx} (ok : Ok c) (hG : c.G = G) {d lo t s : Nat} {T : Hp} {es : Es} {sf : SF}
include ok hG
theorem do_ok {ch : Ch} {cr cl : Nat} {ys : List AV} (hs : T.get s = some sf.ob) (tr : TreeAt T lo t es) (hc : ChAt T cr ch) (h : okC es ch) (hl : T.get cl = some (.list ys)) (sz : ys.length < 60) (ln : lo ≤ T.n) (l1 : 1 ≤ lo) (l2 : 1 ≤ cl) : CaP c T 674 [.ref s, .ref t, .ref cl, .ref cr] (d + 6) fun u T' => u = .none ∧ TreeAt T' lo t (appE (sf.rev + 1) es ch) ∧ T'.get cl = some (.list (ys ++ [.ref cr])) ∧ Upd T.n (KD lo cl) T T' := by
 obtain ⟨_, T1, h1, rfl, t1, u1⟩ := apply_ok ok hG (d := d) (rev := sf.rev + 1) tr hc h ln l1
 obtain ⟨dr, ep, xs, t3, hx⟩ := id tr
 have ht := t3.ht
 have hl1 : T1.get cl = some (.list ys) := u1.get (.inr ⟨rfl, rfl⟩) hl
 refine C_funQ ok (l := [(1735222900, _), (1717990261, _), (32763696029788516, _), (112598731352420, _)]) (tF hG rfl) rfl fun Qz hQ => ?_
 apply X_consP
 apply S_expr
 apply E_lm ok
 exact rfl
 ·(with_reducible repeat' first|assumption|exact get_new _ _|apply get_put|apply get_old|refine get_nf (by assumption) ?_|apply get_kd|with_unfolding_all rfl)
 exact tM hG rfl
 exact rfl
 apply Es_cons
 apply E_bin
 apply E_la ok
 exact rfl
 ·(with_reducible repeat' first|assumption|exact get_new _ _|apply get_put|apply get_old|refine get_nf (by assumption) ?_|apply get_kd|with_unfolding_all rfl)
 exact tA hG rfl
 exact rfl
 apply E_int
 refine k_bi (B_addI) ?_
 refine Es_loc rfl ?_
 apply Es_nil
 refine k_ca (h1) ?_
 apply X_consP
 apply S_expr
 apply E_methB
 refine E_loc rfl ?_
 refine k_bg (G_append hl1) ?_
 refine Es_loc rfl ?_
 apply Es_nil
 refine k_bm (M_append hl1 (Nat.lt_trans sz (lb rfl)) l2) ?_
 apply X_nilP
 apply hQ
 obtain ⟨dr, ep, xs, t3, hx⟩ := id t1
 refine ⟨rfl, ⟨dr, ep, xs, { t3 with ht := get_kd hl1 t3.ht rfl, hd := get_kd hl1 t3.hd rfl, he := fun x m => get_kd hl1 (t3.he x m) rfl }, hx⟩, get_put hl1, (KD.of u1).set (fun _ k => k.1 rfl) hl⟩
theorem session_ok {x : Sn} {ss : List Sn} {ep : Nat} {hh : Int} (hs : T.get s = some sf.ob) (hd : T.get sf.ses = some (.dict (ss.map Sn.dc) ep)) (m : x ∈ ss) (nd : (ss.map Sn.num).Nodup) (g : T.get x.r = some (x.ob hh)) (l1 : 1 ≤ x.r) : Ca c 487 [.ref s, .int x.num] (d + 1) T (.ref x.r) (hput T x.r (x.ob sf.tick)) := by
 have q := dlk_ses m nd
 have : CaP c T 487 [.ref s, .int x.num] (d + 1) fun u T' => u = .ref x.r ∧ T' = hput T x.r (x.ob sf.tick) := by
  refine C_funQ ok (l := [(1735222900, _), (126883592042095, _)]) (tF hG rfl) rfl fun Qz hQ => ?_
  apply X_consP
  apply S_if
  apply T_orP
  apply Ts_goP
  apply T_cmpP
  refine E_callB ok (tG hG rfl) (by first | exact .inl ⟨_, rfl⟩ | exact .inr ⟨_, rfl⟩) ?_
  refine Es_loc rfl ?_
  apply Es_nil
  refine k_bc (by first|exact B_typeS|exact B_typeI|exact B_typeT (by (with_reducible repeat' first|assumption|exact get_new _ _|apply get_put|apply get_old|refine get_nf (by assumption) ?_|apply get_kd|with_unfolding_all rfl))) ?_
  refine E_glb ok (tG hG rfl) ?_
  refine k_cm false (by first | exact C_isnt0 | exact C_isnt1 rfl | exact C_isntT) ?_
  apply k_ye
  apply Ts_goP
  apply T_cmpP
  refine E_loc rfl ?_
  apply E_la ok
  exact rfl
  ·(with_reducible repeat' first|assumption|exact get_new _ _|apply get_put|apply get_old|refine get_nf (by assumption) ?_|apply get_kd|with_unfolding_all rfl)
  exact tA hG rfl
  exact rfl
  refine k_cm false (cmt (C_ninD hd kOk_ses) (by rw [q]; rfl)) ?_
  apply k_ye
  apply Ts_nilP
  apply X_nilP
  apply X_consP
  apply S_asgA ok
  apply E_la ok
  exact rfl
  ·(with_reducible repeat' first|assumption|exact get_new _ _|apply get_put|apply get_old|refine get_nf (by assumption) ?_|apply get_kd|with_unfolding_all rfl)
  exact tA hG rfl
  exact rfl
  apply E_sub
  apply E_la ok
  exact rfl
  ·(with_reducible repeat' first|assumption|exact get_new _ _|apply get_put|apply get_old|refine get_nf (by assumption) ?_|apply get_kd|with_unfolding_all rfl)
  exact tA hG rfl
  exact rfl
  refine E_loc rfl ?_
  refine k_it (I_dict hd kOk_ses q) ?_
  apply k_as2
  ·(with_reducible repeat' first|assumption|exact get_new _ _|apply get_put|apply get_old|refine get_nf (by assumption) ?_|apply get_kd|with_unfolding_all rfl)
  exact tA hG rfl
  exact lb rfl
  first | assumption | exact Nat.le_add_left 1 _ | exact lb rfl
  apply X_consP
  apply S_ret
  apply E_sub
  apply E_la ok
  exact rfl
  ·(with_reducible repeat' first|assumption|exact get_new _ _|apply get_put|apply get_old|refine get_nf (by assumption) ?_|apply get_kd|with_unfolding_all rfl)
  exact tA hG rfl
  exact rfl
  refine E_loc rfl ?_
  refine k_it (I_dict (get_kd g hd rfl) kOk_ses q) ?_
  apply hQ
  exact ⟨rfl, rfl⟩
 obtain ⟨_, _, h, rfl, rfl⟩ := this
 exact h
end
theorem ChAt.upd {T T' : Hp} {P : Nat → AO → Prop} {r : Nat} {ch : Ch} (h : ChAt T r ch) (u : Upd T.n P T T') (hp : ∀ x vs, T.get x = some (.tuple vs) → P x (.tuple vs)) : ChAt T' r ch := by
 cases ch with
 | create p dt ow le ri num => obtain ⟨g, h1, h2⟩ := h; exact ⟨g, u.get (hp _ _ h1) h1, u.get (hp _ _ h2) h2⟩
 | set p dt => exact u.get (hp _ _ h) h
noncomputable abbrev crC (q data : List Nat) (van num : Bool) (nb : Int) : Ch := .create q (.str data) (cond van (.int nb) .none) .none .none num
noncomputable def NumOf (es : Es) (num : Bool) (p q : List Nat) (k : Nat) : Prop := num = false ∧ q = p
section
variable {c : Cx} (ok : Ok c) (hG : c.G = G) {d lo t s : Nat} {T : Hp} {es : Es} {sf : SF}
include ok hG
theorem screate {p u data q : List Nat} {num van : Bool} {k rr cl : Nat} {nb : Int} {ys : List AV} (hs : T.get s = some sf.ob) (tr : TreeAt T lo t es) (hr : T.get rr = some (.list [.str data, .bool van, .bool num, .none, .none])) (hp : OkP p) (ne : p ≠ [47]) (rc : Rch es (parL p)) (hu : u ≠ [42]) (hq : NumOf es num p q k) (hvn : van = false) (h : okC es (crC q data van num nb)) (hl : T.get cl = some (.list ys)) (sz : ys.length < 60) (ln : lo ≤ T.n) (l1 : 1 ≤ lo) (l2 : 1 ≤ cl) : CaP c T 667 [.ref s, .int nb, .str u, .ref t, .str p, .ref rr, .ref cl] (d + 8) fun v T' => v = .str q ∧ ∃ cr, TreeAt T' lo t (appE (sf.rev + 1) es (crC q data van num nb)) ∧ T'.get cl = some (.list (ys ++ [.ref cr])) ∧ ChAt T' cr (crC q data van num nb) ∧ Upd T.n (KD lo cl) T T' := by
 obtain ⟨_, T1, h1, rfl, u1⟩ := parent_ok ok hG (d := d + 5) (T := T) hp ne
 obtain ⟨_, T2, h2, rfl, u2⟩ := need_right_ok ok hG (d := d + 1) (x := 99) (tr.all u1) rc hu rfl
 have u12 : Upd T.n All T T2 := u1.then u2 u1.1
 have fin : ∀ {T3 : Hp}, Upd T.n All T T3 → ∃ T', Ca c 674 [.ref s, .ref t, .ref cl, .ref (hnew T3 (.tuple [.str data, cond van (.int nb) .none, .none, .none, .bool num])).n] (d + 7) (hnew (hnew T3 (.tuple [.str data, cond van (.int nb) .none, .none, .none, .bool num])) (.tuple [.str [99, 114, 101, 97, 116, 101], .str q, .ref T3.n])) .none T' ∧ ∃ cr, TreeAt T' lo t (appE (sf.rev + 1) es (crC q data van num nb)) ∧ T'.get cl = some (.list (ys ++ [.ref cr])) ∧ ChAt T' cr (crC q data van num nb) ∧ Upd T.n (KD lo cl) T T' := by
  intro T3 u3
  have ca : ChAt (hnew (hnew T3 (.tuple [.str data, cond van (.int nb) .none, .none, .none, .bool num])) (.tuple [.str [99, 114, 101, 97, 116, 101], .str q, .ref T3.n])) (hnew T3 (.tuple [.str data, cond van (.int nb) .none, .none, .none, .bool num])).n (crC q data van num nb) := ⟨T3.n, get_new _ _, get_old (get_new _ _)⟩
  have ux := (u3.new (o := .tuple [.str data, cond van (.int nb) .none, .none, .none, .bool num])).new (o := .tuple [.str [99, 114, 101, 97, 116, 101], .str q, .ref T3.n])
  obtain ⟨_, T', h5, rfl, t5, g5, u5⟩ := do_ok ok hG (d := d + 1) (ux.get trivial hs) (tr.all ux) ca h (ux.get trivial hl) sz (Nat.le_trans ln ux.1) l1 l2
  exact ⟨T', h5, _, t5, g5, ca.upd u5 fun x vs g => ⟨ne_kd (ux.get trivial hl) g rfl, .inr ⟨rfl, rfl⟩⟩, ux.a.then u5 ux.1⟩
 obtain ⟨dr, ep, xs, t3, hx⟩ := id tr
 have ht2 := (t3.all u12).ht
 have hs2 := u12.get trivial hs
 obtain ⟨rfl, rfl⟩ := hq
 ·obtain ⟨T', h5, cr, r1, r2, r3, r4⟩ := fin u12
  cases hvn
  refine C_funL ok (l := [(1735222900, _), (126883592042095, _), (1936094326, _), (1717990261, _), (1769300593, _), (1970562675, _), (32763696029788516, _)]) (tF hG rfl) rfl fun lz hz Qz hQ => ?_
  have hz0 := hz 1735222900 _ rfl
  have hz1 := hz 126883592042095 _ rfl
  have hz2 := hz 1936094326 _ rfl
  have hz3 := hz 1717990261 _ rfl
  have hz4 := hz 1769300593 _ rfl
  have hz5 := hz 1970562675 _ rfl
  have hz6 := hz 32763696029788516 _ rfl
  clear hz
  apply X_consP
  apply S_asgT
  refine E_loc (by with_reducible repeat' first|assumption|exact lk_same|apply lk_else|apply lk_drop|with_unfolding_all rfl) ?_
  refine k_tu (.inr hr) rfl ?_
  apply X_consP
  apply S_if
  apply T_cmpP
  refine E_callB ok (tG hG rfl) (by first | exact .inl ⟨_, rfl⟩ | exact .inr ⟨_, rfl⟩) ?_
  refine Es_loc (by with_reducible repeat' first|assumption|exact lk_same|apply lk_else|apply lk_drop|with_unfolding_all rfl) ?_
  apply Es_nil
  refine k_bc (by first|exact B_typeS|exact B_typeI|exact B_typeT (by (with_reducible repeat' first|assumption|exact get_new _ _|apply get_put|apply get_old|refine get_nf (by assumption) ?_|apply get_kd|with_unfolding_all rfl))) ?_
  refine E_glb ok (tG hG rfl) ?_
  refine k_cm false (by first | exact C_isnt0 | exact C_isnt1 rfl | exact C_isntT) ?_
  apply X_nilP
  apply X_consP
  apply S_asg
  refine E_callF ok (tG hG rfl) (tF hG rfl) ?_
  refine Es_loc (by with_reducible repeat' first|assumption|exact lk_same|apply lk_else|apply lk_drop|with_unfolding_all rfl) ?_
  apply Es_nil
  refine k_ca (h1) ?_
  apply X_consP
  apply S_expr
  refine E_callF ok (tG hG rfl) (tF hG rfl) ?_
  refine Es_loc (by with_reducible repeat' first|assumption|exact lk_same|apply lk_else|apply lk_drop|with_unfolding_all rfl) ?_
  refine Es_loc (by with_reducible repeat' first|assumption|exact lk_same|apply lk_else|apply lk_drop|with_unfolding_all rfl) ?_
  refine Es_loc (by with_reducible repeat' first|assumption|exact lk_same|apply lk_else|apply lk_drop|with_unfolding_all rfl) ?_
  apply Es_cons
  apply E_str
  apply Es_nil
  refine k_ca (h2) ?_
  apply X_consP
  apply S_if
  refine T_plainP rfl ?_
  refine E_loc (by with_reducible repeat' first|assumption|exact lk_same|apply lk_else|apply lk_drop|with_unfolding_all rfl) ?_
  apply k_bl
  apply X_nilP
  apply X_consP
  apply S_asg
  apply E_none
  apply X_consP
  apply S_if
  refine T_plainP rfl ?_
  refine E_loc (by with_reducible repeat' first|assumption|exact lk_same|apply lk_else|apply lk_drop|with_unfolding_all rfl) ?_
  apply k_bl
  apply X_nilP
  apply X_consP
  apply S_if
  apply T_cmpP
  refine E_loc (by with_reducible repeat' first|assumption|exact lk_same|apply lk_else|apply lk_drop|with_unfolding_all rfl) ?_
  apply E_none
  refine k_cm false (by first | exact C_isnt0 | exact C_isnt1 rfl | exact C_isntT) ?_
  apply X_nilP
  apply X_consP
  apply S_asg
  apply E_tuple
  refine Es_loc (by with_reducible repeat' first|assumption|exact lk_same|apply lk_else|apply lk_drop|with_unfolding_all rfl) ?_
  refine Es_loc (by with_reducible repeat' first|assumption|exact lk_same|apply lk_else|apply lk_drop|with_unfolding_all rfl) ?_
  refine Es_loc (by with_reducible repeat' first|assumption|exact lk_same|apply lk_else|apply lk_drop|with_unfolding_all rfl) ?_
  apply Es_cons
  refine E_callF ok (tG hG rfl) (tF hG rfl) ?_
  refine Es_loc (by with_reducible repeat' first|assumption|exact lk_same|apply lk_else|apply lk_drop|with_unfolding_all rfl) ?_
  apply Es_nil
  refine k_ca (need_rights_ok ok hG) ?_
  apply Es_cons
  refine E_callB ok (tG hG rfl) (by first | exact .inl ⟨_, rfl⟩ | exact .inr ⟨_, rfl⟩) ?_
  refine Es_loc (by with_reducible repeat' first|assumption|exact lk_same|apply lk_else|apply lk_drop|with_unfolding_all rfl) ?_
  apply Es_nil
  refine k_bc (B_bool) ?_
  apply Es_nil
  refine k_sh (lb rfl) ?_
  apply X_consP
  apply S_expr
  apply E_lm ok
  exact (by with_reducible repeat' first|assumption|exact lk_same|apply lk_else|apply lk_drop|with_unfolding_all rfl)
  ·(with_reducible repeat' first|assumption|exact get_new _ _|apply get_put|apply get_old|refine get_nf (by assumption) ?_|apply get_kd|with_unfolding_all rfl)
  exact tM hG rfl
  exact rfl
  refine Es_loc (by with_reducible repeat' first|assumption|exact lk_same|apply lk_else|apply lk_drop|with_unfolding_all rfl) ?_
  refine Es_loc (by with_reducible repeat' first|assumption|exact lk_same|apply lk_else|apply lk_drop|with_unfolding_all rfl) ?_
  apply Es_cons
  apply E_tuple
  apply Es_cons
  apply E_str
  refine Es_loc (by with_reducible repeat' first|assumption|exact lk_same|apply lk_else|apply lk_drop|with_unfolding_all rfl) ?_
  refine Es_loc (by with_reducible repeat' first|assumption|exact lk_same|apply lk_else|apply lk_drop|with_unfolding_all rfl) ?_
  apply Es_nil
  refine k_sh (lb rfl) ?_
  apply Es_nil
  refine k_ca (h5) ?_
  apply X_consP
  apply S_ret
  refine E_loc (by with_reducible repeat' first|assumption|exact lk_same|apply lk_else|apply lk_drop|with_unfolding_all rfl) ?_
  apply hQ
  exact ⟨rfl, cr, r1, r2, r3, r4⟩
end
noncomputable def StepS (c : Cx) (d s : Nat) (nb : Int) (u : List Nat) (sf : SF) (es : Es) (stp : List AV) (ans : AV) (ch : Ch) : Prop :=
 ∀ (H : Hp) (lo t st cl : Nat), H.get s = some sf.ob → TreeAt H lo t es → H.get st = some (.tuple stp) → H.get cl = some (.list []) → 1 ≤ lo → lo ≤ H.n → 1 ≤ cl →
  CaP c H 660 [.ref s, .int nb, .str u, .ref t, .ref st, .ref cl] d fun v T' => v = ans ∧ ∃ cr, TreeAt T' lo t (appE (sf.rev + 1) es ch) ∧ T'.get cl = some (.list [.ref cr]) ∧ ChAt T' cr ch ∧ Upd H.n (KD lo cl) H T'
section
variable {c : Cx} (ok : Ok c) (hG : c.G = G) {d lo t s : Nat} {T : Hp} {es : Es} {sf : SF}
include ok hG
theorem step_create {p u data q : List Nat} {num van : Bool} {k : Nat} {nb : Int} (hp : OkP p) (ne : p ≠ [47]) (rc : Rch es (parL p)) (hu : u ≠ [42]) (hq : NumOf es num p q k) (hvn : van = false) (h : okC es (crC q data van num nb)) : StepS c (d + 9) s nb u sf es [.str [99, 114, 101, 97, 116, 101], .str p, .str data, .bool van, .bool num, .none, .none] (.str q) (crC q data van num nb) := by
 intro H lo t st cl hs tr hst hl l1 ln l2
 obtain ⟨_, T1, h1, rfl, u1⟩ := need_ok ok hG (d := d + 7) (T := H) hp
 have hst1 := u1.get trivial hst
 have hs1 := u1.get trivial hs
 have hl1 := u1.get trivial hl
 have n1 : 1 ≤ T1.n := Nat.le_trans l1 (Nat.le_trans ln u1.1)
 refine C_funL ok (l := [(1735222900, _), (126883592042095, _), (1936094326, _), (1717990261, _), (1902540148, _), (32763696029788516, _)]) (tF hG rfl) rfl fun lz hz Qz hQ => ?_
 have hz0 := hz 1735222900 _ rfl
 have hz1 := hz 126883592042095 _ rfl
 have hz2 := hz 1936094326 _ rfl
 have hz3 := hz 1717990261 _ rfl
 have hz4 := hz 1902540148 _ rfl
 have hz5 := hz 32763696029788516 _ rfl
 clear hz
 apply X_consP
 apply S_asgW
 apply E_tuple
 apply Es_cons
 apply E_sub
 refine E_loc (by with_reducible repeat' first|assumption|exact lk_same|apply lk_else|apply lk_drop|with_unfolding_all rfl) ?_
 apply E_int
 refine k_it (by first|exact I_tuple (j := 0) (by (with_reducible repeat' first|assumption|exact get_new _ _|apply get_put|apply get_old|refine get_nf (by assumption) ?_|apply get_kd|with_unfolding_all rfl)) rfl (lb rfl)|exact I_list (j := 0) (by (with_reducible repeat' first|assumption|exact get_new _ _|apply get_put|apply get_old|refine get_nf (by assumption) ?_|apply get_kd|with_unfolding_all rfl)) rfl (lb rfl)) ?_
 apply Es_cons
 refine E_callF ok (tG hG rfl) (tF hG rfl) ?_
 apply Es_cons
 apply E_sub
 refine E_loc (by with_reducible repeat' first|assumption|exact lk_same|apply lk_else|apply lk_drop|with_unfolding_all rfl) ?_
 apply E_int
 refine k_it (by first|exact I_tuple (j := 1) (by (with_reducible repeat' first|assumption|exact get_new _ _|apply get_put|apply get_old|refine get_nf (by assumption) ?_|apply get_kd|with_unfolding_all rfl)) rfl (lb rfl)|exact I_list (j := 1) (by (with_reducible repeat' first|assumption|exact get_new _ _|apply get_put|apply get_old|refine get_nf (by assumption) ?_|apply get_kd|with_unfolding_all rfl)) rfl (lb rfl)) ?_
 apply Es_nil
 refine k_ca (h1) ?_
 apply Es_nil
 refine k_sh (lb rfl) ?_
 apply k_tw
 ·(with_reducible repeat' first|assumption|exact get_new _ _|apply get_put|apply get_old|refine get_nf (by assumption) ?_|apply get_kd|with_unfolding_all rfl)
 exact rfl
 apply X_consP
 apply S_asg
 refine E_callB ok (tG hG rfl) (by first | exact .inl ⟨_, rfl⟩ | exact .inr ⟨_, rfl⟩) ?_
 apply Es_cons
 apply E_slice
 refine E_loc (by with_reducible repeat' first|assumption|exact lk_same|apply lk_else|apply lk_drop|with_unfolding_all rfl) ?_
 apply E_int
 refine k_sl (S_tuple (k := 2) (by (with_reducible repeat' first|assumption|exact get_new _ _|apply get_put|apply get_old|refine get_nf (by assumption) ?_|apply get_kd|with_unfolding_all rfl)) (lb rfl) (lb rfl) (lb rfl)) ?_
 apply Es_nil
 refine k_bc (B_listT (by (with_reducible repeat' first|assumption|exact get_new _ _|apply get_put|apply get_old|refine get_nf (by assumption) ?_|apply get_kd|with_unfolding_all rfl)) (lb rfl)) ?_
 apply X_consP
 apply S_if
 apply T_cmpP
 refine E_callB ok (tG hG rfl) (by first | exact .inl ⟨_, rfl⟩ | exact .inr ⟨_, rfl⟩) ?_
 refine Es_loc (by with_reducible repeat' first|assumption|exact lk_same|apply lk_else|apply lk_drop|with_unfolding_all rfl) ?_
 apply Es_nil
 refine k_bc (by first|exact B_lenL (by (with_reducible repeat' first|assumption|exact get_new _ _|apply get_put|apply get_old|refine get_nf (by assumption) ?_|apply get_kd|with_unfolding_all rfl)) (lb rfl)|exact B_lenT (by (with_reducible repeat' first|assumption|exact get_new _ _|apply get_put|apply get_old|refine get_nf (by assumption) ?_|apply get_kd|with_unfolding_all rfl)) (lb rfl)|exact B_lenS (lb rfl)) ?_
 apply E_sub
 apply E_dict ok
 apply P_consP
 apply E_str
 apply E_int
 apply P_consP
 apply E_str
 apply E_int
 apply P_consP
 apply E_str
 apply E_int
 apply P_consP
 apply E_str
 apply E_int
 apply P_consP
 apply E_str
 apply E_int
 apply P_nilP
 apply k_di
 ·(with_reducible repeat' first|assumption|exact get_new _ _|apply get_put|apply get_old|refine get_nf (by assumption) ?_|apply get_kd|with_unfolding_all rfl)
 exact Nat.ble_eq_true_of_le (by first | assumption | exact Nat.le_add_left 1 _ | exact lb rfl)
 exact rfl
 exact List.cons_ne_nil _ _
 exact rfl
 refine E_loc (by with_reducible repeat' first|assumption|exact lk_same|apply lk_else|apply lk_drop|with_unfolding_all rfl) ?_
 refine k_it (I_dict (show Hp.get _ _ = some (.dict [(.str [99, 104, 101, 99, 107], .int 1), (.str [99, 114, 101, 97, 116, 101], .int 5), (.str [115, 101, 116], .int 2), (.str [100, 101, 108, 101, 116, 101], .int 1), (.str [103, 101, 116], .int 0)] 5) from get_put (by (with_reducible repeat' first|assumption|exact get_new _ _|apply get_put|apply get_old|refine get_nf (by assumption) ?_|apply get_kd|with_unfolding_all rfl))) rfl rfl) ?_
 refine k_cm false (C_gt) ?_
 apply X_nilP
 apply X_consP
 apply S_if
 apply T_cmpP
 refine E_loc (by with_reducible repeat' first|assumption|exact lk_same|apply lk_else|apply lk_drop|with_unfolding_all rfl) ?_
 apply E_str
 refine k_cm true (C_eq rfl) ?_
 apply X_consP
 apply S_asg
 apply E_bin
 refine E_loc (by with_reducible repeat' first|assumption|exact lk_same|apply lk_else|apply lk_drop|with_unfolding_all rfl) ?_
 apply E_slice
 apply E_list
 apply Es_cons
 apply E_str
 apply Es_cons
 apply E_bool
 apply Es_cons
 apply E_bool
 apply Es_cons
 apply E_none
 apply Es_cons
 apply E_none
 apply Es_nil
 refine k_sh (lb rfl) ?_
 refine E_callB ok (tG hG rfl) (by first | exact .inl ⟨_, rfl⟩ | exact .inr ⟨_, rfl⟩) ?_
 refine Es_loc (by with_reducible repeat' first|assumption|exact lk_same|apply lk_else|apply lk_drop|with_unfolding_all rfl) ?_
 apply Es_nil
 refine k_bc (by first|exact B_lenL (by (with_reducible repeat' first|assumption|exact get_new _ _|apply get_put|apply get_old|refine get_nf (by assumption) ?_|apply get_kd|with_unfolding_all rfl)) (lb rfl)|exact B_lenT (by (with_reducible repeat' first|assumption|exact get_new _ _|apply get_put|apply get_old|refine get_nf (by assumption) ?_|apply get_kd|with_unfolding_all rfl)) (lb rfl)|exact B_lenS (lb rfl)) ?_
 refine k_sl (S_list (by (with_reducible repeat' first|assumption|exact get_new _ _|apply get_put|apply get_old|refine get_nf (by assumption) ?_|apply get_kd|with_unfolding_all rfl)) (lb rfl) (cut_dn _ _)) ?_
 refine k_bi (B_addL (by (with_reducible repeat' first|assumption|exact get_new _ _|apply get_put|apply get_old|refine get_nf (by assumption) ?_|apply get_kd|with_unfolding_all rfl)) (by (with_reducible repeat' first|assumption|exact get_new _ _|apply get_put|apply get_old|refine get_nf (by assumption) ?_|apply get_kd|with_unfolding_all rfl)) (lb rfl)) ?_
 have ux : Upd H.n All H T1 := u1
 apply X_consP
 apply S_ret
 apply E_lm ok
 exact (by with_reducible repeat' first|assumption|exact lk_same|apply lk_else|apply lk_drop|with_unfolding_all rfl)
 ·(with_reducible repeat' first|assumption|exact get_new _ _|apply get_put|apply get_old|refine get_nf (by assumption) ?_|apply get_kd|with_unfolding_all rfl)
 exact tM hG rfl
 exact rfl
 refine Es_loc (by with_reducible repeat' first|assumption|exact lk_same|apply lk_else|apply lk_drop|with_unfolding_all rfl) ?_
 refine Es_loc (by with_reducible repeat' first|assumption|exact lk_same|apply lk_else|apply lk_drop|with_unfolding_all rfl) ?_
 refine Es_loc (by with_reducible repeat' first|assumption|exact lk_same|apply lk_else|apply lk_drop|with_unfolding_all rfl) ?_
 refine Es_loc (by with_reducible repeat' first|assumption|exact lk_same|apply lk_else|apply lk_drop|with_unfolding_all rfl) ?_
 refine Es_loc (by with_reducible repeat' first|assumption|exact lk_same|apply lk_else|apply lk_drop|with_unfolding_all rfl) ?_
 refine Es_loc (by with_reducible repeat' first|assumption|exact lk_same|apply lk_else|apply lk_drop|with_unfolding_all rfl) ?_
 apply Es_nil
 refine CaP.imp (screate ok hG (d := d) (by (with_reducible repeat' first|assumption|exact get_new _ _|apply get_put|apply get_old|refine get_nf (by assumption) ?_|apply get_kd|with_unfolding_all rfl)) (tr.all (by (with_reducible repeat' first|assumption|exact Upd.refl|apply Upd.new|apply Upd.put|apply Upd.leA))) (by first|exact get_new _ _) hp ne rc hu hq hvn h (by (with_reducible repeat' first|assumption|exact get_new _ _|apply get_put|apply get_old|refine get_nf (by assumption) ?_|apply get_kd|with_unfolding_all rfl)) (lb rfl) (Nat.le_trans ln (Upd.leA (by (with_reducible repeat' first|assumption|exact Upd.refl|apply Upd.new|apply Upd.put|apply Upd.leA)))) l1 l2) ?_
 rintro _ T9 ⟨rfl, cr, r1, r2, r3, r4⟩
 apply hQ
 refine ⟨rfl, cr, r1, r2, r3, Upd.then (Upd.a ?_) r4 (Upd.leA ?_)⟩
 ·(with_reducible repeat' first|assumption|exact Upd.refl|apply Upd.new|apply Upd.put|apply Upd.leA)
 ·(with_reducible repeat' first|assumption|exact Upd.refl|apply Upd.new|apply Upd.put|apply Upd.leA)
end
section
variable {c : Cx} (ok : Ok c) (hG : c.G = G) {d lo t s : Nat} {T : Hp} {es : Es} {sf : SF}
include ok hG
theorem version_ok {p : List Nat} {e : En} {told : AV} (tr : TreeAt T lo t es) (m : (p, e) ∈ es) (hv : e.ver ≠ -1) (ht : told = .none ∨ told = .int e.ver) : Ca c 731 [.ref t, .str p, told] (d + 2) T (.int e.ver) T := by
 have hh := has_yes ok hG (d := d) tr m
 obtain ⟨r, he, ge⟩ := entry_yes ok hG (d := d) tr m
 obtain ⟨dr, ep, xs, t3, hx⟩ := id tr
 have ht3 := t3.ht
 have : CaP c T 731 [.ref t, .str p, told] (d + 2) fun u T' => u = .int e.ver ∧ T' = T := by
  rcases ht with rfl | rfl
  ·skip
   refine C_funQ ok (l := [(1717990261, _), (1769300593, _), (31367324937447031, _)]) (tF hG rfl) rfl fun Qz hQ => ?_
   apply X_consP
   apply S_asg
   apply E_neg
   apply E_int
   apply k_in
   apply X_consP
   apply S_if
   refine T_plainP rfl ?_
   apply E_lm ok
   exact rfl
   ·(with_reducible repeat' first|assumption|exact get_new _ _|apply get_put|apply get_old|refine get_nf (by assumption) ?_|apply get_kd|with_unfolding_all rfl)
   exact tM hG rfl
   exact rfl
   refine Es_loc rfl ?_
   apply Es_nil
   refine k_ca (hh) ?_
   apply k_bl
   apply X_consP
   apply S_asg
   apply E_attr ok
   apply E_lm ok
   exact rfl
   ·(with_reducible repeat' first|assumption|exact get_new _ _|apply get_put|apply get_old|refine get_nf (by assumption) ?_|apply get_kd|with_unfolding_all rfl)
   exact tM hG rfl
   exact rfl
   refine Es_loc rfl ?_
   apply Es_nil
   refine k_ca (he) ?_
   apply k_at2
   ·(with_reducible repeat' first|assumption|exact get_new _ _|apply get_put|apply get_old|refine get_nf (by assumption) ?_|apply get_kd|with_unfolding_all rfl)
   exact tA hG rfl
   exact rfl
   apply X_nilP
   apply X_consP
   apply S_if
   apply T_andP
   apply Ts_stopP
   apply T_cmpP
   refine E_loc rfl ?_
   apply E_none
   refine k_cm false (by first | exact C_isnt0 | exact C_isnt1 rfl | exact C_isntT) ?_
   apply k_ye
   apply X_nilP
   apply X_consP
   apply S_if
   apply T_andP
   apply Ts_stopP
   apply T_cmpP
   refine E_loc rfl ?_
   apply E_neg
   apply E_int
   apply k_in
   refine k_cm false (C_eq (congrArg some (decide_eq_false hv))) ?_
   apply k_ye
   apply X_nilP
   apply X_consP
   apply S_ret
   refine E_loc rfl ?_
   apply hQ
   exact ⟨rfl, rfl⟩
  ·skip
   refine C_funQ ok (l := [(1717990261, _), (1769300593, _), (31367324937447031, _)]) (tF hG rfl) rfl fun Qz hQ => ?_
   apply X_consP
   apply S_asg
   apply E_neg
   apply E_int
   apply k_in
   apply X_consP
   apply S_if
   refine T_plainP rfl ?_
   apply E_lm ok
   exact rfl
   ·(with_reducible repeat' first|assumption|exact get_new _ _|apply get_put|apply get_old|refine get_nf (by assumption) ?_|apply get_kd|with_unfolding_all rfl)
   exact tM hG rfl
   exact rfl
   refine Es_loc rfl ?_
   apply Es_nil
   refine k_ca (hh) ?_
   apply k_bl
   apply X_consP
   apply S_asg
   apply E_attr ok
   apply E_lm ok
   exact rfl
   ·(with_reducible repeat' first|assumption|exact get_new _ _|apply get_put|apply get_old|refine get_nf (by assumption) ?_|apply get_kd|with_unfolding_all rfl)
   exact tM hG rfl
   exact rfl
   refine Es_loc rfl ?_
   apply Es_nil
   refine k_ca (he) ?_
   apply k_at2
   ·(with_reducible repeat' first|assumption|exact get_new _ _|apply get_put|apply get_old|refine get_nf (by assumption) ?_|apply get_kd|with_unfolding_all rfl)
   exact tA hG rfl
   exact rfl
   apply X_nilP
   apply X_consP
   apply S_if
   apply T_andP
   apply Ts_goP
   apply T_cmpP
   refine E_loc rfl ?_
   apply E_none
   refine k_cm true (by first | exact C_isnt0 | exact C_isnt1 rfl | exact C_isntT) ?_
   apply k_ye
   apply Ts_stopP
   apply T_cmpP
   refine E_loc rfl ?_
   refine E_loc rfl ?_
   refine k_cm false (C_ne (t := true) (congrArg some (decide_eq_true rfl))) ?_
   apply k_ye
   apply X_nilP
   apply X_consP
   apply S_if
   apply T_andP
   apply Ts_stopP
   apply T_cmpP
   refine E_loc rfl ?_
   apply E_neg
   apply E_int
   apply k_in
   refine k_cm false (C_eq (congrArg some (decide_eq_false hv))) ?_
   apply k_ye
   apply X_nilP
   apply X_consP
   apply S_ret
   refine E_loc rfl ?_
   apply hQ
   exact ⟨rfl, rfl⟩
 obtain ⟨_, _, h, rfl, rfl⟩ := this
 exact h
theorem step_set {p u : List Nat} {nb : Int} {e : En} {data : List Nat} {told : AV} (hp : OkP p) (rc : Rch es p) (hu : u ≠ [42]) (m : (p, e) ∈ es) (hv : e.ver ≠ -1) (htl : told = .none ∨ told = .int e.ver) : StepS c (d + 8) s nb u sf es [.str [115, 101, 116], .str p, .str data, told] (.int (e.ver + 1)) (.set p (.str data)) := by
 intro H lo t st cl hs tr hst hl l1 ln l2
 obtain ⟨_, T1, h1, rfl, u1⟩ := need_ok ok hG (d := d + 6) (T := H) hp
 have hst1 := u1.get trivial hst
 have hs1 := u1.get trivial hs
 have hl1 := u1.get trivial hl
 have n1 : 1 ≤ T1.n := Nat.le_trans l1 (Nat.le_trans ln u1.1)
 refine C_funL ok (l := [(1735222900, _), (126883592042095, _), (1936094326, _), (1717990261, _), (1902540148, _), (32763696029788516, _)]) (tF hG rfl) rfl fun lz hz Qz hQ => ?_
 have hz0 := hz 1735222900 _ rfl
 have hz1 := hz 126883592042095 _ rfl
 have hz2 := hz 1936094326 _ rfl
 have hz3 := hz 1717990261 _ rfl
 have hz4 := hz 1902540148 _ rfl
 have hz5 := hz 32763696029788516 _ rfl
 clear hz
 apply X_consP
 apply S_asgW
 apply E_tuple
 apply Es_cons
 apply E_sub
 refine E_loc (by with_reducible repeat' first|assumption|exact lk_same|apply lk_else|apply lk_drop|with_unfolding_all rfl) ?_
 apply E_int
 refine k_it (by first|exact I_tuple (j := 0) (by (with_reducible repeat' first|assumption|exact get_new _ _|apply get_put|apply get_old|refine get_nf (by assumption) ?_|apply get_kd|with_unfolding_all rfl)) rfl (lb rfl)|exact I_list (j := 0) (by (with_reducible repeat' first|assumption|exact get_new _ _|apply get_put|apply get_old|refine get_nf (by assumption) ?_|apply get_kd|with_unfolding_all rfl)) rfl (lb rfl)) ?_
 apply Es_cons
 refine E_callF ok (tG hG rfl) (tF hG rfl) ?_
 apply Es_cons
 apply E_sub
 refine E_loc (by with_reducible repeat' first|assumption|exact lk_same|apply lk_else|apply lk_drop|with_unfolding_all rfl) ?_
 apply E_int
 refine k_it (by first|exact I_tuple (j := 1) (by (with_reducible repeat' first|assumption|exact get_new _ _|apply get_put|apply get_old|refine get_nf (by assumption) ?_|apply get_kd|with_unfolding_all rfl)) rfl (lb rfl)|exact I_list (j := 1) (by (with_reducible repeat' first|assumption|exact get_new _ _|apply get_put|apply get_old|refine get_nf (by assumption) ?_|apply get_kd|with_unfolding_all rfl)) rfl (lb rfl)) ?_
 apply Es_nil
 refine k_ca (h1) ?_
 apply Es_nil
 refine k_sh (lb rfl) ?_
 apply k_tw
 ·(with_reducible repeat' first|assumption|exact get_new _ _|apply get_put|apply get_old|refine get_nf (by assumption) ?_|apply get_kd|with_unfolding_all rfl)
 exact rfl
 apply X_consP
 apply S_asg
 refine E_callB ok (tG hG rfl) (by first | exact .inl ⟨_, rfl⟩ | exact .inr ⟨_, rfl⟩) ?_
 apply Es_cons
 apply E_slice
 refine E_loc (by with_reducible repeat' first|assumption|exact lk_same|apply lk_else|apply lk_drop|with_unfolding_all rfl) ?_
 apply E_int
 refine k_sl (S_tuple (k := 2) (by (with_reducible repeat' first|assumption|exact get_new _ _|apply get_put|apply get_old|refine get_nf (by assumption) ?_|apply get_kd|with_unfolding_all rfl)) (lb rfl) (lb rfl) (lb rfl)) ?_
 apply Es_nil
 refine k_bc (B_listT (by (with_reducible repeat' first|assumption|exact get_new _ _|apply get_put|apply get_old|refine get_nf (by assumption) ?_|apply get_kd|with_unfolding_all rfl)) (lb rfl)) ?_
 apply X_consP
 apply S_if
 apply T_cmpP
 refine E_callB ok (tG hG rfl) (by first | exact .inl ⟨_, rfl⟩ | exact .inr ⟨_, rfl⟩) ?_
 refine Es_loc (by with_reducible repeat' first|assumption|exact lk_same|apply lk_else|apply lk_drop|with_unfolding_all rfl) ?_
 apply Es_nil
 refine k_bc (by first|exact B_lenL (by (with_reducible repeat' first|assumption|exact get_new _ _|apply get_put|apply get_old|refine get_nf (by assumption) ?_|apply get_kd|with_unfolding_all rfl)) (lb rfl)|exact B_lenT (by (with_reducible repeat' first|assumption|exact get_new _ _|apply get_put|apply get_old|refine get_nf (by assumption) ?_|apply get_kd|with_unfolding_all rfl)) (lb rfl)|exact B_lenS (lb rfl)) ?_
 apply E_sub
 apply E_dict ok
 apply P_consP
 apply E_str
 apply E_int
 apply P_consP
 apply E_str
 apply E_int
 apply P_consP
 apply E_str
 apply E_int
 apply P_consP
 apply E_str
 apply E_int
 apply P_consP
 apply E_str
 apply E_int
 apply P_nilP
 apply k_di
 ·(with_reducible repeat' first|assumption|exact get_new _ _|apply get_put|apply get_old|refine get_nf (by assumption) ?_|apply get_kd|with_unfolding_all rfl)
 exact Nat.ble_eq_true_of_le (by first | assumption | exact Nat.le_add_left 1 _ | exact lb rfl)
 exact rfl
 exact List.cons_ne_nil _ _
 exact rfl
 refine E_loc (by with_reducible repeat' first|assumption|exact lk_same|apply lk_else|apply lk_drop|with_unfolding_all rfl) ?_
 refine k_it (I_dict (show Hp.get _ _ = some (.dict [(.str [99, 104, 101, 99, 107], .int 1), (.str [99, 114, 101, 97, 116, 101], .int 5), (.str [115, 101, 116], .int 2), (.str [100, 101, 108, 101, 116, 101], .int 1), (.str [103, 101, 116], .int 0)] 5) from get_put (by (with_reducible repeat' first|assumption|exact get_new _ _|apply get_put|apply get_old|refine get_nf (by assumption) ?_|apply get_kd|with_unfolding_all rfl))) rfl rfl) ?_
 refine k_cm false (C_gt) ?_
 apply X_nilP
 apply X_consP
 apply S_if
 apply T_cmpP
 refine E_loc (by with_reducible repeat' first|assumption|exact lk_same|apply lk_else|apply lk_drop|with_unfolding_all rfl) ?_
 apply E_str
 refine k_cm false (C_eq rfl) ?_
 apply X_nilP
 apply X_consP
 apply S_if
 apply T_cmpP
 refine E_loc (by with_reducible repeat' first|assumption|exact lk_same|apply lk_else|apply lk_drop|with_unfolding_all rfl) ?_
 apply E_str
 refine k_cm false (C_eq rfl) ?_
 apply X_nilP
 apply X_consP
 apply S_asg
 apply E_none
 apply X_consP
 apply S_if
 apply T_andP
 apply Ts_goP
 apply T_cmpP
 refine E_loc (by with_reducible repeat' first|assumption|exact lk_same|apply lk_else|apply lk_drop|with_unfolding_all rfl) ?_
 apply E_str
 refine k_cm true (C_eq rfl) ?_
 apply k_ye
 apply Ts_goP
 apply T_cmpP
 refine E_callB ok (tG hG rfl) (by first | exact .inl ⟨_, rfl⟩ | exact .inr ⟨_, rfl⟩) ?_
 refine Es_loc (by with_reducible repeat' first|assumption|exact lk_same|apply lk_else|apply lk_drop|with_unfolding_all rfl) ?_
 apply Es_nil
 refine k_bc (by first|exact B_lenL (by (with_reducible repeat' first|assumption|exact get_new _ _|apply get_put|apply get_old|refine get_nf (by assumption) ?_|apply get_kd|with_unfolding_all rfl)) (lb rfl)|exact B_lenT (by (with_reducible repeat' first|assumption|exact get_new _ _|apply get_put|apply get_old|refine get_nf (by assumption) ?_|apply get_kd|with_unfolding_all rfl)) (lb rfl)|exact B_lenS (lb rfl)) ?_
 apply E_int
 refine k_cm true (C_gt) ?_
 apply k_ye
 apply Ts_nilP
 apply X_consP
 apply S_asg
 apply E_sub
 refine E_loc (by with_reducible repeat' first|assumption|exact lk_same|apply lk_else|apply lk_drop|with_unfolding_all rfl) ?_
 apply E_int
 refine k_it (by first|exact I_tuple (j := 1) (by (with_reducible repeat' first|assumption|exact get_new _ _|apply get_put|apply get_old|refine get_nf (by assumption) ?_|apply get_kd|with_unfolding_all rfl)) rfl (lb rfl)|exact I_list (j := 1) (by (with_reducible repeat' first|assumption|exact get_new _ _|apply get_put|apply get_old|refine get_nf (by assumption) ?_|apply get_kd|with_unfolding_all rfl)) rfl (lb rfl)) ?_
 apply X_nilP
 apply X_consP
 apply S_if
 apply T_andP
 apply Ts_stopP
 apply T_cmpP
 refine E_loc (by with_reducible repeat' first|assumption|exact lk_same|apply lk_else|apply lk_drop|with_unfolding_all rfl) ?_
 apply E_list
 apply Es_cons
 apply E_str
 apply Es_cons
 apply E_str
 apply Es_nil
 refine k_sh (lb rfl) ?_
 refine k_cm false (cmt (C_in (.inr (get_new _ _)) rfl) rfl) ?_
 apply k_ye
 apply X_nilP
 apply X_consP
 apply S_expr
 refine E_callF ok (tG hG rfl) (tF hG rfl) ?_
 refine Es_loc (by with_reducible repeat' first|assumption|exact lk_same|apply lk_else|apply lk_drop|with_unfolding_all rfl) ?_
 refine Es_loc (by with_reducible repeat' first|assumption|exact lk_same|apply lk_else|apply lk_drop|with_unfolding_all rfl) ?_
 refine Es_loc (by with_reducible repeat' first|assumption|exact lk_same|apply lk_else|apply lk_drop|with_unfolding_all rfl) ?_
 apply Es_cons
 apply E_sub
 apply E_dict ok
 apply P_consP
 apply E_str
 apply E_str
 apply P_consP
 apply E_str
 apply E_str
 apply P_consP
 apply E_str
 apply E_str
 apply P_nilP
 apply k_di
 ·(with_reducible repeat' first|assumption|exact get_new _ _|apply get_put|apply get_old|refine get_nf (by assumption) ?_|apply get_kd|with_unfolding_all rfl)
 exact Nat.ble_eq_true_of_le (by first | assumption | exact Nat.le_add_left 1 _ | exact lb rfl)
 exact rfl
 exact List.cons_ne_nil _ _
 exact rfl
 refine E_loc (by with_reducible repeat' first|assumption|exact lk_same|apply lk_else|apply lk_drop|with_unfolding_all rfl) ?_
 refine k_it (I_dict (show Hp.get _ _ = some (.dict [(.str [99, 104, 101, 99, 107], .str [114]), (.str [115, 101, 116], .str [119]), (.str [100, 101, 108, 101, 116, 101], .str [100])] 3) from get_put (by (with_reducible repeat' first|assumption|exact get_new _ _|apply get_put|apply get_old|refine get_nf (by assumption) ?_|apply get_kd|with_unfolding_all rfl))) rfl rfl) ?_
 apply Es_nil
 refine CaP.imp (need_right_ok ok hG (d := d + 1) (tr.all (by (with_reducible repeat' first|assumption|exact Upd.refl|apply Upd.new|apply Upd.put|apply Upd.leA))) rc hu rfl) ?_
 rintro _ T4 ⟨rfl, u4⟩
 have u4a : Upd H.n All H T4 := Upd.then (by (with_reducible repeat' first|assumption|exact Upd.refl|apply Upd.new|apply Upd.put|apply Upd.leA)) u4 (Upd.leA (by (with_reducible repeat' first|assumption|exact Upd.refl|apply Upd.new|apply Upd.put|apply Upd.leA)))
 have hs4 := u4a.get trivial hs
 have hl4 := u4a.get trivial hl
 have hr4 : T4.get (hnew (hnew T1 (.tuple [.str [115, 101, 116], .str p])) (.tuple (List.drop 2 [.str [115, 101, 116], .str p, .str data, told]))).n = some (.list (List.drop 2 [.str [115, 101, 116], .str p, .str data, told])) := u4.get trivial (by (with_reducible repeat' first|assumption|exact get_new _ _|apply get_put|apply get_old|refine get_nf (by assumption) ?_|apply get_kd|with_unfolding_all rfl))
 apply X_consP
 apply S_asg
 refine E_callF ok (tG hG rfl) (tF hG rfl) ?_
 refine Es_loc (by with_reducible repeat' first|assumption|exact lk_same|apply lk_else|apply lk_drop|with_unfolding_all rfl) ?_
 refine Es_loc (by with_reducible repeat' first|assumption|exact lk_same|apply lk_else|apply lk_drop|with_unfolding_all rfl) ?_
 refine Es_loc (by with_reducible repeat' first|assumption|exact lk_same|apply lk_else|apply lk_drop|with_unfolding_all rfl) ?_
 apply Es_nil
 refine k_ca (version_ok ok hG (d := d + 5) (tr.all u4a) m hv htl) ?_
 apply X_consP
 apply S_if
 apply T_cmpP
 refine E_loc (by with_reducible repeat' first|assumption|exact lk_same|apply lk_else|apply lk_drop|with_unfolding_all rfl) ?_
 apply E_str
 refine k_cm true (C_eq rfl) ?_
 apply X_consP
 apply S_if
 apply T_orP
 apply Ts_goP
 apply T_cmpP
 refine E_callB ok (tG hG rfl) (by first | exact .inl ⟨_, rfl⟩ | exact .inr ⟨_, rfl⟩) ?_
 refine Es_loc (by with_reducible repeat' first|assumption|exact lk_same|apply lk_else|apply lk_drop|with_unfolding_all rfl) ?_
 apply Es_nil
 refine k_bc (B_lenL hr4 (lb rfl)) ?_
 apply E_int
 refine k_cm false (C_eq rfl) ?_
 apply k_ye
 apply Ts_goP
 apply T_cmpP
 refine E_callB ok (tG hG rfl) (by first | exact .inl ⟨_, rfl⟩ | exact .inr ⟨_, rfl⟩) ?_
 apply Es_cons
 apply E_sub
 refine E_loc (by with_reducible repeat' first|assumption|exact lk_same|apply lk_else|apply lk_drop|with_unfolding_all rfl) ?_
 apply E_int
 refine k_it (I_list (j := 0) hr4 rfl (lb rfl)) ?_
 apply Es_nil
 refine k_bc (by first|exact B_typeS|exact B_typeI|exact B_typeT (by (with_reducible repeat' first|assumption|exact get_new _ _|apply get_put|apply get_old|refine get_nf (by assumption) ?_|apply get_kd|with_unfolding_all rfl))) ?_
 refine E_glb ok (tG hG rfl) ?_
 refine k_cm false (by first | exact C_isnt0 | exact C_isnt1 rfl | exact C_isntT) ?_
 apply k_ye
 apply Ts_nilP
 apply X_nilP
 apply X_consP
 apply S_expr
 apply E_lm ok
 exact (by with_reducible repeat' first|assumption|exact lk_same|apply lk_else|apply lk_drop|with_unfolding_all rfl)
 ·(with_reducible repeat' first|assumption|exact get_new _ _|apply get_put|apply get_old|refine get_nf (by assumption) ?_|apply get_kd|with_unfolding_all rfl)
 exact tM hG rfl
 exact rfl
 refine Es_loc (by with_reducible repeat' first|assumption|exact lk_same|apply lk_else|apply lk_drop|with_unfolding_all rfl) ?_
 refine Es_loc (by with_reducible repeat' first|assumption|exact lk_same|apply lk_else|apply lk_drop|with_unfolding_all rfl) ?_
 apply Es_cons
 apply E_tuple
 apply Es_cons
 apply E_str
 refine Es_loc (by with_reducible repeat' first|assumption|exact lk_same|apply lk_else|apply lk_drop|with_unfolding_all rfl) ?_
 apply Es_cons
 apply E_sub
 refine E_loc (by with_reducible repeat' first|assumption|exact lk_same|apply lk_else|apply lk_drop|with_unfolding_all rfl) ?_
 apply E_int
 refine k_it (I_list (j := 0) hr4 rfl (lb rfl)) ?_
 apply Es_nil
 refine k_sh (lb rfl) ?_
 apply Es_nil
 refine CaP.imp (do_ok ok hG (d := d + 1) (ch := .set p (.str data)) (by (with_reducible repeat' first|assumption|exact get_new _ _|apply get_put|apply get_old|refine get_nf (by assumption) ?_|apply get_kd|with_unfolding_all rfl)) (tr.all (by (with_reducible repeat' first|assumption|exact Upd.refl|apply Upd.new|apply Upd.put|apply Upd.leA))) (get_new _ _) ⟨e, m⟩ (by (with_reducible repeat' first|assumption|exact get_new _ _|apply get_put|apply get_old|refine get_nf (by assumption) ?_|apply get_kd|with_unfolding_all rfl)) (lb rfl) (Nat.le_trans ln (Upd.leA (by (with_reducible repeat' first|assumption|exact Upd.refl|apply Upd.new|apply Upd.put|apply Upd.leA)))) l1 l2) ?_
 rintro _ T9 ⟨rfl, r1, r2, r4⟩
 apply X_consP
 apply S_ret
 apply E_bin
 refine E_loc (by with_reducible repeat' first|assumption|exact lk_same|apply lk_else|apply lk_drop|with_unfolding_all rfl) ?_
 apply E_int
 refine k_bi (B_addI) ?_
 apply hQ
 refine ⟨rfl, _, r1, r2, ChAt.upd (ch := .set p (.str data)) (get_new _ _) r4 (fun x vs g => ⟨ne_kd (get_old hl4) g rfl, .inr ⟨rfl, rfl⟩⟩), Upd.then (Upd.a ?_) r4 (Upd.leA ?_)⟩
 ·(with_reducible repeat' first|assumption|exact Upd.refl|apply Upd.new|apply Upd.put|apply Upd.leA)
 ·(with_reducible repeat' first|assumption|exact Upd.refl|apply Upd.new|apply Upd.put|apply Upd.leA)
end
theorem KD.low {n lo cl : Nat} {T T' : Hp} (u : Upd n (KD lo cl) T T') (h : lo ≤ n) (h2 : lo ≤ cl) : Upd lo All T T' := ⟨u.1, fun r a q _ g => u.2 r a (Nat.lt_of_lt_of_le q h) ⟨Nat.ne_of_lt (Nat.lt_of_lt_of_le q h2), .inl q⟩ g⟩
noncomputable def But (x : Nat) : Nat → AO → Prop := fun r _ => r ≠ x
noncomputable abbrev stepsT : List AV := [.str [99, 104, 101, 99, 107], .str [99, 114, 101, 97, 116, 101], .str [115, 101, 116], .str [100, 101, 108, 101, 116, 101], .str [103, 101, 116]]
theorem TreeAt.off {T : Hp} {lo t r : Nat} {es : Es} {o o' : AO} (h : TreeAt T lo t es) (g : T.get r = some o) (q1 : Nat.beq (kd o) (240 + 6) = false) (q2 : Nat.beq (kd o) 0 = false) (q3 : Nat.beq (kd o) (164 + 6) = false) : TreeAt (hput T r o') lo t es :=
 let ⟨dr, ep, xs, t3, hx⟩ := h
 ⟨dr, ep, xs, { t3 with ht := get_kd g t3.ht q1, hd := get_kd g t3.hd q2, he := fun x m => get_kd g (t3.he x m) q3 }, hx⟩
structure SesAt (T : Hp) (sd ep : Nat) (ss : List Sn) : Prop where
 hd : T.get sd = some (.dict (ss.map Sn.dc) ep)
 he : ∀ x ∈ ss, 1 ≤ x.r ∧ ∃ h, T.get x.r = some (x.ob h)
 nd : (ss.map Sn.num).Nodup
section
variable {c : Cx} (ok : Ok c) (hG : c.G = G) {d lo t s : Nat} {T : Hp} {es : Es} {sf : SF}
include ok hG
theorem steps_ok {x : Sn} {ss : List Sn} {ep lo0 st sl : Nat} {w p : List Nat} {tl : List AV} {ans : AV} {ch : Ch} (hs : T.get s = some sf.ob) (se : SesAt T sf.ses ep ss) (mx : x ∈ ss) (tr : TreeAt T lo0 sf.tree es) (hstp : StepS c (d + 8) s x.num x.u sf es (.str w :: .str p :: tl) ans ch) (hw : stepsT.any (sq · (.str w)) = true) (htl : tl.length ≤ 8) (hst : T.get st = some (.tuple (.str w :: .str p :: tl))) (hsl : T.get sl = some (.list [.ref st])) (hn : 1 ≤ T.n) :
  CaP c T 653 [.ref s, .int x.num, .ref sl, .bool false] (d + 9) fun v T' => ∃ rt t cl al cr, v = .ref rt ∧ T'.get rt = some (.tuple [.ref t, .ref cl, .ref al]) ∧ TreeAt T' T.n t (appE (sf.rev + 1) es ch) ∧ T'.get cl = some (.list [.ref cr]) ∧ ChAt T' cr ch ∧ T'.get al = some (.list [ans]) ∧ Upd T.n (But x.r) T T' ∧ T.n ≤ al ∧ T.n ≤ cl ∧ T'.get x.r = some (x.ob sf.tick) := by
 obtain ⟨l1, hh, gx⟩ := se.he x mx
 have h1 := session_ok ok hG (d := d + 7) hs se.hd mx se.nd gx l1
 have u1 : Upd T.n (But x.r) T (hput T x.r (x.ob sf.tick)) := Upd.refl.set (fun _ k => k rfl) gx
 have tr1 := tr.off (o' := x.ob sf.tick) gx rfl rfl rfl
 obtain ⟨_, T2, h2, rfl, tr2, u2⟩ := tree_copy ok hG (d := d + 3) tr1 hn
 have hs1 : (hput T x.r (x.ob sf.tick)).get s = some sf.ob := get_kd gx hs rfl
 have hs2 := u2.get trivial hs1
 have g1 : (hput T x.r (x.ob sf.tick)).get x.r = some (x.ob sf.tick) := get_put gx
 have hst2 := u2.get trivial (get_kd gx hst rfl)
 have hsl2 := u2.get trivial (get_kd gx hsl rfl)
 have n2 : 1 ≤ T2.n := Nat.le_trans hn u2.1
 have hS : lk c.G.top 450 = some stepsT := by rw [hG]; rfl
 obtain ⟨dr, ep9, xs, t3, hx⟩ := id tr1
 have ht := t3.ht
 refine C_funL ok (l := [(1735222900, _), (126883592042095, _), (500118746484, _), (30789020241323636, _)]) (tF hG rfl) rfl fun lz hz Qz hQ => ?_
 have hz0 := hz 1735222900 _ rfl
 have hz1 := hz 126883592042095 _ rfl
 have hz2 := hz 500118746484 _ rfl
 have hz3 := hz 30789020241323636 _ rfl
 clear hz
 apply X_consP
 apply S_asg
 apply E_attr ok
 apply E_lm ok
 exact (by with_reducible repeat' first|assumption|exact lk_same|apply lk_else|apply lk_drop|with_unfolding_all rfl)
 ·(with_reducible repeat' first|assumption|exact get_new _ _|apply get_put|apply get_old|refine get_nf (by assumption) ?_|apply get_kd|with_unfolding_all rfl)
 exact tM hG rfl
 exact rfl
 refine Es_loc (by with_reducible repeat' first|assumption|exact lk_same|apply lk_else|apply lk_drop|with_unfolding_all rfl) ?_
 apply Es_nil
 refine k_ca (h1) ?_
 apply k_at2
 ·(with_reducible repeat' first|assumption|exact get_new _ _|apply get_put|apply get_old|refine get_nf (by assumption) ?_|apply get_kd|with_unfolding_all rfl)
 exact tA hG rfl
 exact rfl
 apply X_consP
 apply S_asg
 apply E_meth ok
 apply E_la ok
 exact (by with_reducible repeat' first|assumption|exact lk_same|apply lk_else|apply lk_drop|with_unfolding_all rfl)
 ·(with_reducible repeat' first|assumption|exact get_new _ _|apply get_put|apply get_old|refine get_nf (by assumption) ?_|apply get_kd|with_unfolding_all rfl)
 exact tA hG rfl
 exact rfl
 apply k_mt2
 ·(with_reducible repeat' first|assumption|exact get_new _ _|apply get_put|apply get_old|refine get_nf (by assumption) ?_|apply get_kd|with_unfolding_all rfl)
 exact tM hG rfl
 exact rfl
 apply Es_nil
 refine k_ca (h2) ?_
 apply X_consP
 apply S_asg
 apply E_list
 apply Es_nil
 refine k_sh (lb rfl) ?_
 apply X_consP
 apply S_asg
 apply E_list
 apply Es_nil
 refine k_sh (lb rfl) ?_
 apply X_consP
 apply S_for
 refine E_callB ok (tG hG rfl) (by first | exact .inl ⟨_, rfl⟩ | exact .inr ⟨_, rfl⟩) ?_
 apply Es_cons
 refine E_callB ok (tG hG rfl) (by first | exact .inl ⟨_, rfl⟩ | exact .inr ⟨_, rfl⟩) ?_
 refine Es_loc (by with_reducible repeat' first|assumption|exact lk_same|apply lk_else|apply lk_drop|with_unfolding_all rfl) ?_
 apply Es_nil
 refine k_bc (by first|exact B_lenL (by (with_reducible repeat' first|assumption|exact get_new _ _|apply get_put|apply get_old|refine get_nf (by assumption) ?_|apply get_kd|with_unfolding_all rfl)) (lb rfl)|exact B_lenT (by (with_reducible repeat' first|assumption|exact get_new _ _|apply get_put|apply get_old|refine get_nf (by assumption) ?_|apply get_kd|with_unfolding_all rfl)) (lb rfl)|exact B_lenS (lb rfl)) ?_
 apply Es_nil
 refine k_bc (B_range) ?_
 refine k_ik (show IkOf _ _ (.range 0 1) from ⟨1, get_new _ _, by decide, by decide, by decide, by decide, rfl⟩) ?_
 refine L_nextP (show Turn _ _ 0 (some (.int 0)) (.range 0 1) from .inl ⟨Nat.one_pos, rfl⟩) (bind_one) ?_
 apply X_consP
 apply S_try
 apply X_consP
 apply S_if
 apply T_cmpP
 refine E_callB ok (tG hG rfl) (by first | exact .inl ⟨_, rfl⟩ | exact .inr ⟨_, rfl⟩) ?_
 apply Es_cons
 apply E_sub
 refine E_loc (by with_reducible repeat' first|assumption|exact lk_same|apply lk_else|apply lk_drop|with_unfolding_all rfl) ?_
 refine E_loc (by with_reducible repeat' first|assumption|exact lk_same|apply lk_else|apply lk_drop|with_unfolding_all rfl) ?_
 refine k_it (I_list (j := 0) (by (with_reducible repeat' first|assumption|exact get_new _ _|apply get_put|apply get_old|refine get_nf (by assumption) ?_|apply get_kd|with_unfolding_all rfl)) rfl (lb rfl)) ?_
 apply Es_nil
 refine k_bc (by first|exact B_typeS|exact B_typeI|exact B_typeT (by (with_reducible repeat' first|assumption|exact get_new _ _|apply get_put|apply get_old|refine get_nf (by assumption) ?_|apply get_kd|with_unfolding_all rfl))) ?_
 apply E_list
 apply Es_cons
 refine E_glb ok (tG hG rfl) ?_
 apply Es_cons
 refine E_glb ok (tG hG rfl) ?_
 apply Es_nil
 refine k_sh (lb rfl) ?_
 refine k_cm false (cmt (C_nin (.inr (get_new _ _)) rfl) rfl) ?_
 apply X_nilP
 apply X_consP
 apply S_asg
 refine E_callB ok (tG hG rfl) (by first | exact .inl ⟨_, rfl⟩ | exact .inr ⟨_, rfl⟩) ?_
 apply Es_cons
 apply E_sub
 refine E_loc (by with_reducible repeat' first|assumption|exact lk_same|apply lk_else|apply lk_drop|with_unfolding_all rfl) ?_
 refine E_loc (by with_reducible repeat' first|assumption|exact lk_same|apply lk_else|apply lk_drop|with_unfolding_all rfl) ?_
 refine k_it (I_list (j := 0) (by (with_reducible repeat' first|assumption|exact get_new _ _|apply get_put|apply get_old|refine get_nf (by assumption) ?_|apply get_kd|with_unfolding_all rfl)) rfl (lb rfl)) ?_
 apply Es_nil
 refine k_bc (B_tupleT (by (with_reducible repeat' first|assumption|exact get_new _ _|apply get_put|apply get_old|refine get_nf (by assumption) ?_|apply get_kd|with_unfolding_all rfl))) ?_
 apply X_consP
 apply S_if
 apply T_orP
 apply Ts_goP
 apply T_cmpP
 refine E_callB ok (tG hG rfl) (by first | exact .inl ⟨_, rfl⟩ | exact .inr ⟨_, rfl⟩) ?_
 refine Es_loc (by with_reducible repeat' first|assumption|exact lk_same|apply lk_else|apply lk_drop|with_unfolding_all rfl) ?_
 apply Es_nil
 refine k_bc (B_lenT (by (with_reducible repeat' first|assumption|exact get_new _ _|apply get_put|apply get_old|refine get_nf (by assumption) ?_|apply get_kd|with_unfolding_all rfl)) (lt4 (Nat.succ_le_succ (Nat.succ_le_succ htl)) rfl)) ?_
 apply E_int
 refine k_cm false (cmt C_lt (decide_eq_false (Int.not_lt.mpr (Int.ofNat_le.mpr (Nat.succ_le_succ (Nat.succ_le_succ (Nat.zero_le _))))))) ?_
 apply k_ye
 apply Ts_goP
 apply T_cmpP
 apply E_sub
 refine E_loc (by with_reducible repeat' first|assumption|exact lk_same|apply lk_else|apply lk_drop|with_unfolding_all rfl) ?_
 apply E_int
 refine k_it (by first|exact I_tuple (j := 0) (by (with_reducible repeat' first|assumption|exact get_new _ _|apply get_put|apply get_old|refine get_nf (by assumption) ?_|apply get_kd|with_unfolding_all rfl)) rfl (lb rfl)|exact I_list (j := 0) (by (with_reducible repeat' first|assumption|exact get_new _ _|apply get_put|apply get_old|refine get_nf (by assumption) ?_|apply get_kd|with_unfolding_all rfl)) rfl (lb rfl)) ?_
 refine E_glb ok (tG hG rfl) ?_
 refine k_cm false (cmt (C_ninO ok hS rfl) (by rw [hw]; rfl)) ?_
 apply k_ye
 apply Ts_nilP
 apply X_nilP
 apply X_consP
 apply S_expr
 apply E_methB
 refine E_loc (by with_reducible repeat' first|assumption|exact lk_same|apply lk_else|apply lk_drop|with_unfolding_all rfl) ?_
 refine k_bg ((G_append (by (with_reducible repeat' first|assumption|exact get_new _ _|apply get_put|apply get_old|refine get_nf (by assumption) ?_|apply get_kd|with_unfolding_all rfl)))) ?_
 apply Es_cons
 apply E_lm ok
 exact (by with_reducible repeat' first|assumption|exact lk_same|apply lk_else|apply lk_drop|with_unfolding_all rfl)
 ·(with_reducible repeat' first|assumption|exact get_new _ _|apply get_put|apply get_old|refine get_nf (by assumption) ?_|apply get_kd|with_unfolding_all rfl)
 exact tM hG rfl
 exact rfl
 refine Es_loc (by with_reducible repeat' first|assumption|exact lk_same|apply lk_else|apply lk_drop|with_unfolding_all rfl) ?_
 refine Es_loc (by with_reducible repeat' first|assumption|exact lk_same|apply lk_else|apply lk_drop|with_unfolding_all rfl) ?_
 refine Es_loc (by with_reducible repeat' first|assumption|exact lk_same|apply lk_else|apply lk_drop|with_unfolding_all rfl) ?_
 refine Es_loc (by with_reducible repeat' first|assumption|exact lk_same|apply lk_else|apply lk_drop|with_unfolding_all rfl) ?_
 refine Es_loc (by with_reducible repeat' first|assumption|exact lk_same|apply lk_else|apply lk_drop|with_unfolding_all rfl) ?_
 apply Es_nil
 refine CaP.imp (hstp _ T.n _ _ _ (by (with_reducible repeat' first|assumption|exact get_new _ _|apply get_put|apply get_old|refine get_nf (by assumption) ?_|apply get_kd|with_unfolding_all rfl)) (tr2.all (by (with_reducible repeat' first|assumption|exact Upd.refl|apply Upd.new|apply Upd.put|apply Upd.leA))) (by (with_reducible repeat' first|assumption|exact get_new _ _|apply get_put|apply get_old|refine get_nf (by assumption) ?_|apply get_kd|with_unfolding_all rfl)) (by (with_reducible repeat' first|assumption|exact get_new _ _|apply get_put|apply get_old|refine get_nf (by assumption) ?_|apply get_kd|with_unfolding_all rfl)) hn (Nat.le_trans u2.1 (Upd.leA (by (with_reducible repeat' first|assumption|exact Upd.refl|apply Upd.new|apply Upd.put|apply Upd.leA)))) n2) ?_
 rintro an T9 ⟨rfl, cr, r1, r2, r3, r4⟩
 have ga : T9.get (hnew T2 (.list [])).n = some (.list []) := r4.get ⟨Nat.ne_of_gt (Nat.lt_succ_self _), .inr ⟨rfl, rfl⟩⟩ (by (with_reducible repeat' first|assumption|exact get_new _ _|apply get_put|apply get_old|refine get_nf (by assumption) ?_|apply get_kd|with_unfolding_all rfl))
 apply Es_nil
 refine k_bm (M_append ga (lb rfl) (Nat.le_add_left 1 _)) ?_
 apply X_nilP
 apply X_nilP
 refine L_endP (show Turn _ _ 1 none (.range 0 1) from .inr ⟨Nat.le_refl _, rfl⟩) ?_
 apply X_consP
 apply S_ret
 apply E_tuple
 refine Es_loc (by with_reducible repeat' first|assumption|exact lk_same|apply lk_else|apply lk_drop|with_unfolding_all rfl) ?_
 refine Es_loc (by with_reducible repeat' first|assumption|exact lk_same|apply lk_else|apply lk_drop|with_unfolding_all rfl) ?_
 refine Es_loc (by with_reducible repeat' first|assumption|exact lk_same|apply lk_else|apply lk_drop|with_unfolding_all rfl) ?_
 apply Es_nil
 refine k_sh (lb rfl) ?_
 apply hQ
 have u9 : Upd T9.n (But (hnew T2 (.list [])).n) T9 (hput T9 (hnew T2 (.list [])).n (.list ([] ++ [an]))) := Upd.refl.set (fun _ k => k rfl) ga
 have uz : Upd T.n All (hput T x.r (x.ob sf.tick)) (hnew (hput T9 (hnew T2 (.list [])).n (.list ([] ++ [an]))) (.tuple [.ref T.n, .ref T2.n, .ref (hnew T2 (.list [])).n])) := by
  refine ((u2.trans (Upd.trans ?_ (KD.low r4 ?_ u2.1))).put (Nat.le_succ_of_le u2.1)).new
  ·(with_reducible repeat' first|assumption|exact Upd.refl|apply Upd.new|apply Upd.put|apply Upd.leA)
  ·exact Nat.le_trans u2.1 (Upd.leA (by (with_reducible repeat' first|assumption|exact Upd.refl|apply Upd.new|apply Upd.put|apply Upd.leA)))
 refine ⟨_, _, T2.n, (hnew T2 (.list [])).n, cr, rfl, get_new _ _, (r1.off ga rfl rfl rfl).all Upd.refl.new, get_old (get_nf (Nat.ne_of_lt (Nat.lt_succ_self _)) r2), r3.upd (P := But (hnew T2 (.list [])).n) u9.new fun y vs g => ne_kd ga g rfl, get_old (get_put ga), u1.trans uz.a, Nat.le_succ_of_le u2.1, u2.1, uz.2 _ _ (lt_of_get gx) trivial g1⟩
end
structure Rn where
 r : Nat
 rev : Int
 tick : Int
 cs : Nat
 cr : Nat
 ch : Ch
noncomputable abbrev Rn.rf (x : Rn) : AV := .ref x.r
structure RnAt (T : Hp) (x : Rn) : Prop where
 h1 : T.get x.r = some (.tuple [.int x.rev, .int x.tick, .ref x.cs])
 h2 : T.get x.cs = some (.tuple [.ref x.cr])
 h3 : ChAt T x.cr x.ch
theorem RnAt.upd {T T' : Hp} {P : Nat → AO → Prop} {x : Rn} (h : RnAt T x) (u : Upd T.n P T T') (hp : ∀ x vs, T.get x = some (.tuple vs) → P x (.tuple vs)) : RnAt T' x := ⟨u.get (hp _ _ h.h1) h.h1, u.get (hp _ _ h.h2) h.h2, h.h3.upd u hp⟩
noncomputable abbrev logOb (lr sp : Nat) (st : Int) : AO := .inst 320 [(1954050163, .ref lr), (8462379648668561268, .ref sp), (504447006068, .int st)]
noncomputable abbrev snOb (rv : Int) (st : Nat) : AO := .inst 261 [(8030035183836554867, .int rv), (1717990261, .ref st)]
noncomputable def lastR (st : Int) (rows : List Rn) : Int := match rows.getLast? with | some x => x.rev | none => st
theorem lastR_snoc (st : Int) (rows : List Rn) (x : Rn) : lastR st (rows ++ [x]) = x.rev := by unfold lastR; rw [List.getLast?_append]; rfl
theorem TreeAt.weak {T : Hp} {lo t : Nat} {es : Es} (h : TreeAt T lo t es) (l : 1 ≤ lo) : TreeAt T 1 t es :=
 let ⟨dr, ep, xs, t3, hx⟩ := h
 ⟨dr, ep, xs, { t3 with lt := Nat.le_trans l t3.lt, ld := Nat.le_trans l t3.ld, le := fun x m => Nat.le_trans l (t3.le x m) }, hx⟩
noncomputable def kq (a : AO) : Bool := !(Nat.beq (kd a) (720 + 6) || Nat.beq (kd a) (320 + 6) || Nat.beq (kd a) (445 + 6))
noncomputable def KQ (lr ev : Nat) : Nat → AO → Prop := fun r a => r ≠ lr ∧ r ≠ ev ∧ kq a = true
theorem TreeAt.keep {T T' : Hp} {P : Nat → AO → Prop} {lo t : Nat} {es : Es} (h : TreeAt T lo t es) (u : Upd T.n P T T') (k : ∀ r a, T.get r = some a → (Nat.beq (kd a) (240 + 6) || Nat.beq (kd a) 0 || Nat.beq (kd a) (164 + 6)) = true → P r a) : TreeAt T' lo t es :=
 let ⟨dr, ep, xs, t3, hx⟩ := h
 ⟨dr, ep, xs, { t3 with ht := u.get (k _ _ t3.ht rfl) t3.ht, hd := u.get (k _ _ t3.hd rfl) t3.hd, he := fun x m => u.get (k _ _ (t3.he x m) rfl) (t3.he x m) }, hx⟩
theorem kd_ne {T : Hp} {r x : Nat} {a b : AO} (h : T.get r = some a) (g : T.get x = some b) (q : (Nat.beq (kd b) (240 + 6) || Nat.beq (kd b) 0 || Nat.beq (kd b) (164 + 6)) = true) (q2 : (Nat.beq (kd a) (240 + 6) || Nat.beq (kd a) 0 || Nat.beq (kd a) (164 + 6)) = false) : x ≠ r := by
 rintro rfl
 rw [h] at g; cases g
 rw [q] at q2; cases q2
section
variable {c : Cx} (ok : Ok c) (hG : c.G = G) {d s lg lr sp t lo : Nat} {T : Hp} {es : Es} {sf : SF} {rows : List Rn} {sta : Int}
include ok hG
theorem log_last (hl : T.get lg = some (logOb lr sp sta)) (hr : T.get lr = some (.list (rows.map Rn.rf))) (rn : ∀ x ∈ rows, RnAt T x) (sz : rows.length < 50) : Ca c 293 [.ref lg] (d + 1) T (.int (lastR sta rows)) T := by
 have sz' : (rows.map Rn.rf).length < 4000 := by rw [List.length_map]; exact Nat.lt_trans sz (lb rfl)
 have : CaP c T 293 [.ref lg] (d + 1) fun u T' => u = .int (lastR sta rows) ∧ T' = T := by
  refine C_funQ ok (l := [(1735222900, _)]) (tF hG rfl) rfl fun Qz hQ => ?_
  unfold lastR at hQ
  cases e : rows.getLast? with
  | none =>
   rw [e] at hQ
   cases List.getLast?_eq_none_iff.mp e
   apply X_consP
   apply S_if
   apply T_cmpP
   refine E_callB ok (tG hG rfl) (by first | exact .inl ⟨_, rfl⟩ | exact .inr ⟨_, rfl⟩) ?_
   apply Es_cons
   apply E_la ok
   exact rfl
   ·(with_reducible repeat' first|assumption|exact get_new _ _|apply get_put|apply get_old|refine get_nf (by assumption) ?_|apply get_kd|with_unfolding_all rfl)
   exact tA hG rfl
   exact rfl
   apply Es_nil
   refine k_bc (B_lenL hr sz') ?_
   apply E_int
   refine k_cm true (C_eq rfl) ?_
   apply X_consP
   apply S_ret
   apply E_la ok
   exact rfl
   ·(with_reducible repeat' first|assumption|exact get_new _ _|apply get_put|apply get_old|refine get_nf (by assumption) ?_|apply get_kd|with_unfolding_all rfl)
   exact tA hG rfl
   exact rfl
   apply hQ
   exact ⟨rfl, rfl⟩
  | some x =>
   rw [e] at hQ
   have m := List.mem_of_getLast? e
   have ne : rows.length ≠ 0 := fun z => by rw [List.length_eq_zero_iff.mp z] at m; cases m
   have rx := (rn x m).h1
   apply X_consP
   apply S_if
   apply T_cmpP
   refine E_callB ok (tG hG rfl) (by first | exact .inl ⟨_, rfl⟩ | exact .inr ⟨_, rfl⟩) ?_
   apply Es_cons
   apply E_la ok
   exact rfl
   ·(with_reducible repeat' first|assumption|exact get_new _ _|apply get_put|apply get_old|refine get_nf (by assumption) ?_|apply get_kd|with_unfolding_all rfl)
   exact tA hG rfl
   exact rfl
   apply Es_nil
   refine k_bc (B_lenL hr sz') ?_
   apply E_int
   refine k_cm false (C_eq (congrArg some (decide_eq_false fun z => ne (by rw [List.length_map] at z; exact Int.ofNat_inj.mp z)))) ?_
   apply X_nilP
   apply X_consP
   apply S_ret
   apply E_sub
   apply E_sub
   apply E_la ok
   exact rfl
   ·(with_reducible repeat' first|assumption|exact get_new _ _|apply get_put|apply get_old|refine get_nf (by assumption) ?_|apply get_kd|with_unfolding_all rfl)
   exact tA hG rfl
   exact rfl
   apply E_neg
   apply E_int
   apply k_in
   refine k_it (I_last (v := .ref x.r) hr (by rw [List.getLast?_map, e]; rfl)) ?_
   apply E_int
   refine k_it (I_tuple (j := 0) rx rfl (lb rfl)) ?_
   apply hQ
   exact ⟨rfl, rfl⟩
 obtain ⟨_, _, h, rfl, rfl⟩ := this
 exact h
theorem log_add {cl cr : Nat} {ch : Ch} {rev tick : Int} (hl : T.get lg = some (logOb lr sp sta)) (hr : T.get lr = some (.list (rows.map Rn.rf))) (rn : ∀ x ∈ rows, RnAt T x) (sz : rows.length < 50) (hc : T.get cl = some (.list [.ref cr])) (hch : ChAt T cr ch) (hrev : rev = lastR sta rows + 1) (l1 : 1 ≤ lr) : CaP c T 286 [.ref lg, .int rev, .int tick, .ref cl] (d + 2) fun v T' => v = .none ∧ ∃ x : Rn, x.rev = rev ∧ x.ch = ch ∧ T'.get lr = some (.list ((rows ++ [x]).map Rn.rf)) ∧ RnAt T' x ∧ Upd T.n (But lr) T T' := by
 have h1 := log_last ok hG (d := d) hl hr rn sz
 refine C_funL ok (l := [(1735222900, _), (8030035183836554867, _), (1818520181, _), (32763696029788516, _)]) (tF hG rfl) rfl fun lz hz Qz hQ => ?_
 have hz0 := hz 1735222900 _ rfl
 have hz1 := hz 8030035183836554867 _ rfl
 have hz2 := hz 1818520181 _ rfl
 have hz3 := hz 32763696029788516 _ rfl
 clear hz
 apply X_consP
 apply S_if
 apply T_cmpP
 refine E_loc (by with_reducible repeat' first|assumption|exact lk_same|apply lk_else|apply lk_drop|with_unfolding_all rfl) ?_
 apply E_bin
 apply E_lm ok
 exact (by with_reducible repeat' first|assumption|exact lk_same|apply lk_else|apply lk_drop|with_unfolding_all rfl)
 ·(with_reducible repeat' first|assumption|exact get_new _ _|apply get_put|apply get_old|refine get_nf (by assumption) ?_|apply get_kd|with_unfolding_all rfl)
 exact tM hG rfl
 exact rfl
 apply Es_nil
 refine k_ca (h1) ?_
 apply E_int
 refine k_bi (B_addI) ?_
 refine k_cm false (C_ne (t := true) (congrArg some (decide_eq_true hrev))) ?_
 apply X_nilP
 apply X_consP
 apply S_expr
 apply E_methB
 apply E_la ok
 exact (by with_reducible repeat' first|assumption|exact lk_same|apply lk_else|apply lk_drop|with_unfolding_all rfl)
 ·(with_reducible repeat' first|assumption|exact get_new _ _|apply get_put|apply get_old|refine get_nf (by assumption) ?_|apply get_kd|with_unfolding_all rfl)
 exact tA hG rfl
 exact rfl
 refine k_bg ((G_append (by (with_reducible repeat' first|assumption|exact get_new _ _|apply get_put|apply get_old|refine get_nf (by assumption) ?_|apply get_kd|with_unfolding_all rfl)))) ?_
 apply Es_cons
 apply E_tuple
 refine Es_loc (by with_reducible repeat' first|assumption|exact lk_same|apply lk_else|apply lk_drop|with_unfolding_all rfl) ?_
 refine Es_loc (by with_reducible repeat' first|assumption|exact lk_same|apply lk_else|apply lk_drop|with_unfolding_all rfl) ?_
 apply Es_cons
 refine E_callB ok (tG hG rfl) (by first | exact .inl ⟨_, rfl⟩ | exact .inr ⟨_, rfl⟩) ?_
 refine Es_loc (by with_reducible repeat' first|assumption|exact lk_same|apply lk_else|apply lk_drop|with_unfolding_all rfl) ?_
 apply Es_nil
 refine k_bc (B_tupleL hc (lb rfl)) ?_
 apply Es_nil
 refine k_sh (lb rfl) ?_
 apply Es_nil
 refine k_bm (M_append (by (with_reducible repeat' first|assumption|exact get_new _ _|apply get_put|apply get_old|refine get_nf (by assumption) ?_|apply get_kd|with_unfolding_all rfl)) (by rw [List.length_map]; exact Nat.lt_trans sz (lb rfl)) l1) ?_
 apply X_nilP
 apply hQ
 have hr2 : (hnew (hnew T (.tuple [.ref cr])) (.tuple [.int rev, .int tick, .ref T.n])).get lr = some (.list (rows.map Rn.rf)) := get_old (get_old hr)
 have u2 : Upd T.n (But lr) T (hput (hnew (hnew T (.tuple [.ref cr])) (.tuple [.int rev, .int tick, .ref T.n])) lr (.list (rows.map Rn.rf ++ [.ref (hnew T (.tuple [.ref cr])).n]))) := Upd.refl.new.new.set (fun _ k => k rfl) hr
 refine ⟨rfl, ⟨(hnew T (.tuple [.ref cr])).n, rev, tick, T.n, cr, ch⟩, rfl, rfl, ?_, ⟨get_kd hr2 (get_new _ _) rfl, get_kd hr2 (get_old (get_new _ _)) rfl, hch.upd u2 fun x vs g => ne_kd hr g rfl⟩, u2⟩
 rw [List.map_append]; exact get_put hr2
theorem snap_init {rv : Int} (tr : TreeAt T lo t es) (hn : 1 ≤ T.n) : CaP c (hnew T (.inst 261 [])) 258 [.ref T.n, .int rv, .ref t] (d + 6) fun u T' => u = .none ∧ ∃ st, T'.get T.n = some (snOb rv st) ∧ Upd T.n All T T' := by
 obtain ⟨dr, ep, xs, t3, hx⟩ := id tr
 have ht := t3.ht
 have u1 : Upd T.n All T (hput (hnew T (.inst 261 [])) T.n (.inst 261 [(8030035183836554867, .int rv)])) := Upd.refl.new.put (Nat.le_refl _)
 refine C_funQ ok (l := [(1735222900, _), (8030035183836554867, _), (1717990261, _)]) (tF hG rfl) rfl fun Qz hQ => ?_
 apply X_consP
 apply S_asgL ok
 refine E_loc rfl ?_
 apply k_al
 exact rfl
 ·(with_reducible repeat' first|assumption|exact get_new _ _|apply get_put|apply get_old|refine get_nf (by assumption) ?_|apply get_kd|with_unfolding_all rfl)
 exact tA hG rfl
 exact lb rfl
 first | assumption | exact Nat.le_add_left 1 _ | exact lb rfl
 apply X_consP
 apply S_asgL ok
 apply E_lm ok
 exact rfl
 ·(with_reducible repeat' first|assumption|exact get_new _ _|apply get_put|apply get_old|refine get_nf (by assumption) ?_|apply get_kd|with_unfolding_all rfl)
 exact tM hG rfl
 exact rfl
 apply Es_nil
 refine CaP.imp (tree_copy ok hG (tr.all u1) (Nat.le_succ_of_le hn)) ?_
 rintro _ T2 ⟨rfl, tr2, u2⟩
 have g2 : T2.get T.n = some (.inst 261 [(8030035183836554867, .int rv)]) := u2.get trivial (get_put (get_new _ _))
 apply k_al
 exact rfl
 ·(with_reducible repeat' first|assumption|exact get_new _ _|apply get_put|apply get_old|refine get_nf (by assumption) ?_|apply get_kd|with_unfolding_all rfl)
 exact tA hG rfl
 exact lb rfl
 first | assumption | exact Nat.le_add_left 1 _ | exact lb rfl
 apply X_nilP
 apply hQ
 exact ⟨rfl, _, get_put g2, (u1.then u2 u1.1).put (Nat.le_refl _)⟩
theorem cut_loop {A : Nat} {n0 : Nat} (hA : n0 ≤ A) (hs : T.get lg = some (logOb lr sp sta)) (hr : T.get lr = some (.list (rows.map Rn.rf))) (rn : ∀ x ∈ rows, RnAt T x) (hle : ∀ x ∈ rows, x.rev ≤ sta) (l : List Rn) : ∀ (pr : List Rn) (loc : Loc), rows = pr ++ l → lk loc 1735222900 = some (.ref lg) →
  CoP c (d + 1) loc T (.list (.loc 7893107)) A [7893107] lr .list pr.length (.cons (.cmp .gt (.sub (.loc 7893107) (.int 0)) (.attr (.loc 1735222900) 504447006068)) .nil) fun T' => T' = T := by
 induction l with
 | nil =>
  intro pr loc hx h2
  rw [List.append_nil] at hx; subst hx
  exact Co_endP (turnL hr (get_end _ _)) rfl
 | cons x l ih =>
  intro pr loc hx h2
  have mx : x ∈ rows := hx ▸ List.mem_append_right _ (.head _)
  have rx := (rn x mx).h1
  have k1 : lk (pt loc 7893107 (.ref x.r)) 7893107 = some (.ref x.r) := by rw [lk_pt, if_pos rfl]
  have k2 : lk (pt loc 7893107 (.ref x.r)) 1735222900 = some (.ref lg) := by rw [lk_pt, if_neg (by decide)]; exact h2
  refine Co_skipP (turnL hr (by rw [hx]; exact get_mid _ _ _ _)) bind_one ?_
  apply Te_stopP
  apply T_cmpP
  apply E_sub
  refine E_loc k1 ?_
  apply E_int
  refine k_it (I_tuple (j := 0) rx rfl (lb rfl)) ?_
  apply E_la ok
  exact k2
  exact hs
  exact tA hG rfl
  exact rfl
  refine k_cm false (cmt C_gt (decide_eq_false (Int.not_lt.mpr (hle x mx)))) ?_
  apply k_ye
  apply k_ye
  have := ih (pr ++ [x]) (pt loc 7893107 (.ref x.r)) (by rw [hx, List.append_assoc]; rfl) k2
  rw [List.length_append] at this
  exact this
theorem compact_ok (hs : T.get s = some sf.ob) (ps : 1 ≤ s) (hl : T.get sf.log = some (logOb lr sp sta)) (pg : 1 ≤ sf.log) (hr : T.get lr = some (.list (rows.map Rn.rf))) (rn : ∀ x ∈ rows, RnAt T x) (sz : rows.length < 50) (hst : sta ≤ lastR sta rows) (hle : ∀ x ∈ rows, x.rev ≤ lastR sta rows) (tr : TreeAt T lo sf.tree es) (hn : 1 ≤ T.n) : CaP c T 580 [.ref s] (d + 9) fun v T' => ∃ lr' sp', T'.get sf.log = some (logOb lr' sp' (lastR sta rows)) ∧ T'.get lr' = some (.list []) ∧ T.n ≤ lr' ∧ Upd T.n (But sf.log) T T' := by
 have h1 := log_last ok hG (d := d + 6) hl hr rn sz
 have sz' : (rows.map Rn.rf).length < 4000 := by rw [List.length_map]; exact Nat.lt_trans sz (lb rfl)
 obtain ⟨_, T1, h2, rfl, st1, g1, u1⟩ := snap_init ok hG (d := d) (rv := lastR sta rows) tr hn
 have hl1 := u1.get trivial hl
 have htk : CaP c T 305 [.ref sf.log, .ref sf.tree] (d + 8) fun v T' => v = .none ∧ T' = hput T1 sf.log (logOb lr T.n sta) := by
  refine C_funL ok (l := [(1735222900, _), (1717990261, _)]) (tF hG rfl) rfl fun lz hz Qz hQ => ?_
  have hz0 := hz 1735222900 _ rfl
  have hz1 := hz 1717990261 _ rfl
  clear hz
  apply X_consP
  apply S_asgL ok
  refine E_new ok (tG hG rfl) (tC hG rfl) rfl ?_
  apply Es_cons
  apply E_lm ok
  exact (by with_reducible repeat' first|assumption|exact lk_same|apply lk_else|apply lk_drop|with_unfolding_all rfl)
  ·(with_reducible repeat' first|assumption|exact get_new _ _|apply get_put|apply get_old|refine get_nf (by assumption) ?_|apply get_kd|with_unfolding_all rfl)
  exact tM hG rfl
  exact rfl
  apply Es_nil
  refine k_ca (h1) ?_
  refine Es_loc (by with_reducible repeat' first|assumption|exact lk_same|apply lk_else|apply lk_drop|with_unfolding_all rfl) ?_
  apply Es_nil
  refine k_ca (h2) ?_
  apply k_no
  apply k_al
  exact (by with_reducible repeat' first|assumption|exact lk_same|apply lk_else|apply lk_drop|with_unfolding_all rfl)
  ·(with_reducible repeat' first|assumption|exact get_new _ _|apply get_put|apply get_old|refine get_nf (by assumption) ?_|apply get_kd|with_unfolding_all rfl)
  exact tA hG rfl
  exact lb rfl
  first | assumption | exact Nat.le_add_left 1 _ | exact lb rfl
  apply X_nilP
  apply hQ
  exact ⟨rfl, rfl⟩
 obtain ⟨_, T2, h3, rfl, rfl⟩ := htk
 have u2 : Upd T.n (But sf.log) T (hput T1 sf.log (logOb lr T.n sta)) := u1.a.set (fun _ k => k rfl) hl
 have hl2 : (hput T1 sf.log (logOb lr T.n sta)).get sf.log = some (logOb lr T.n sta) := get_put hl1
 have hr2 := u2.get (ne_kd hl hr rfl) hr
 have gs2 : (hput T1 sf.log (logOb lr T.n sta)).get T.n = some (snOb (lastR sta rows) st1) := get_kd hl1 g1 rfl
 have hl3 : (hput (hput T1 sf.log (logOb lr T.n sta)) sf.log (logOb lr T.n (lastR sta rows))).get sf.log = some (logOb lr T.n (lastR sta rows)) := get_put hl2
 have u3 : Upd T.n (But sf.log) T (hput (hput T1 sf.log (logOb lr T.n sta)) sf.log (logOb lr T.n (lastR sta rows))) := u2.set (fun _ k => k rfl) hl
 have hr3 := u3.get (ne_kd hl hr rfl) hr
 have rn3 : ∀ x ∈ rows, RnAt (hnew (hput (hput T1 sf.log (logOb lr T.n sta)) sf.log (logOb lr T.n (lastR sta rows))) (.list [])) x := fun x m => (rn x m).upd u3.new fun y vs g => ne_kd hl g rfl
 have hcp : CaP c (hput T1 sf.log (logOb lr T.n sta)) 310 [.ref sf.log] (d + 8) fun v T' => ∃ lr', T'.get sf.log = some (logOb lr' T.n (lastR sta rows)) ∧ T'.get lr' = some (.list []) ∧ T.n ≤ lr' ∧ Upd T.n (But sf.log) T T' := by
  obtain ⟨T4, h4, rfl⟩ := cut_loop ok hG (d := d + 6) (A := (hput (hput T1 sf.log (logOb lr T.n sta)) sf.log (logOb lr T.n (lastR sta rows))).n) (n0 := 0) (Nat.zero_le _) (get_old hl3) (get_old hr3) rn3 hle rows [] (rm [k_dot0, 7893107] [(1735222900, .ref sf.log), (504381206628, .int (rows.map Rn.rf).length)]) rfl rfl
  refine C_funQ ok (l := [(1735222900, _)]) (tF hG rfl) rfl fun Qz hQ => ?_
  apply X_consP
  apply S_asg
  refine E_callB ok (tG hG rfl) (by first | exact .inl ⟨_, rfl⟩ | exact .inr ⟨_, rfl⟩) ?_
  apply Es_cons
  apply E_la ok
  exact rfl
  ·(with_reducible repeat' first|assumption|exact get_new _ _|apply get_put|apply get_old|refine get_nf (by assumption) ?_|apply get_kd|with_unfolding_all rfl)
  exact tA hG rfl
  exact rfl
  apply Es_nil
  refine k_bc (B_lenL hr2 sz') ?_
  apply X_consP
  apply S_asgL ok
  refine E_callB ok (tG hG rfl) (by first | exact .inl ⟨_, rfl⟩ | exact .inr ⟨_, rfl⟩) ?_
  apply Es_cons
  apply E_la ok
  exact rfl
  ·(with_reducible repeat' first|assumption|exact get_new _ _|apply get_put|apply get_old|refine get_nf (by assumption) ?_|apply get_kd|with_unfolding_all rfl)
  exact tA hG rfl
  exact rfl
  apply Es_cons
  apply E_attr ok
  apply E_la ok
  exact rfl
  ·(with_reducible repeat' first|assumption|exact get_new _ _|apply get_put|apply get_old|refine get_nf (by assumption) ?_|apply get_kd|with_unfolding_all rfl)
  exact tA hG rfl
  exact rfl
  apply k_at2
  ·(with_reducible repeat' first|assumption|exact get_new _ _|apply get_put|apply get_old|refine get_nf (by assumption) ?_|apply get_kd|with_unfolding_all rfl)
  exact tA hG rfl
  exact rfl
  apply Es_nil
  refine k_bc (B_max2 (k := lastR sta rows) (by split <;> omega)) ?_
  apply k_al
  exact rfl
  ·(with_reducible repeat' first|assumption|exact get_new _ _|apply get_put|apply get_old|refine get_nf (by assumption) ?_|apply get_kd|with_unfolding_all rfl)
  exact tA hG rfl
  exact lb rfl
  first | assumption | exact Nat.le_add_left 1 _ | exact lb rfl
  apply X_consP
  apply S_asgL ok
  apply E_listc
  apply E_la ok
  exact rfl
  ·(with_reducible repeat' first|assumption|exact get_new _ _|apply get_put|apply get_old|refine get_nf (by assumption) ?_|apply get_kd|with_unfolding_all rfl)
  exact tA hG rfl
  exact rfl
  refine k_ik (ikL hr3) ?_
  refine k_co (h4) ?_
  apply k_al
  exact rfl
  ·(with_reducible repeat' first|assumption|exact get_new _ _|apply get_put|apply get_old|refine get_nf (by assumption) ?_|apply get_kd|with_unfolding_all rfl)
  exact tA hG rfl
  exact lb rfl
  first | assumption | exact Nat.le_add_left 1 _ | exact lb rfl
  apply X_consP
  apply S_ret
  apply E_bin
  refine E_loc rfl ?_
  refine E_callB ok (tG hG rfl) (by first | exact .inl ⟨_, rfl⟩ | exact .inr ⟨_, rfl⟩) ?_
  apply Es_cons
  apply E_la ok
  exact rfl
  ·(with_reducible repeat' first|assumption|exact get_new _ _|apply get_put|apply get_old|refine get_nf (by assumption) ?_|apply get_kd|with_unfolding_all rfl)
  exact tA hG rfl
  exact rfl
  apply Es_nil
  refine k_bc (B_lenL (get_kd (get_old hl3) (get_new _ _) rfl) (lb rfl)) ?_
  refine k_bi (B_subI) ?_
  apply hQ
  refine ⟨_, get_put (get_old hl3), get_kd (get_old hl3) (get_new _ _) rfl, u3.1, u3.new.set (fun _ k => k rfl) hl⟩
 obtain ⟨v5, T5, h5, lr', q1, q2, q3, q4⟩ := hcp
 obtain ⟨dr, ep, xs, t3, hx⟩ := id tr
 have ht := t3.ht
 have hs2 := u2.get (ne_kd hl hs rfl) hs
 refine C_funQ ok (l := [(1735222900, _)]) (tF hG rfl) rfl fun Qz hQ => ?_
 apply X_consP
 apply S_expr
 apply E_meth ok
 apply E_la ok
 exact rfl
 ·(with_reducible repeat' first|assumption|exact get_new _ _|apply get_put|apply get_old|refine get_nf (by assumption) ?_|apply get_kd|with_unfolding_all rfl)
 exact tA hG rfl
 exact rfl
 apply k_mt2
 ·(with_reducible repeat' first|assumption|exact get_new _ _|apply get_put|apply get_old|refine get_nf (by assumption) ?_|apply get_kd|with_unfolding_all rfl)
 exact tM hG rfl
 exact rfl
 apply Es_cons
 apply E_la ok
 exact rfl
 ·(with_reducible repeat' first|assumption|exact get_new _ _|apply get_put|apply get_old|refine get_nf (by assumption) ?_|apply get_kd|with_unfolding_all rfl)
 exact tA hG rfl
 exact rfl
 apply Es_nil
 refine k_ca (h3) ?_
 apply X_consP
 apply S_ret
 apply E_meth ok
 apply E_la ok
 exact rfl
 ·(with_reducible repeat' first|assumption|exact get_new _ _|apply get_put|apply get_old|refine get_nf (by assumption) ?_|apply get_kd|with_unfolding_all rfl)
 exact tA hG rfl
 exact rfl
 apply k_mt2
 ·(with_reducible repeat' first|assumption|exact get_new _ _|apply get_put|apply get_old|refine get_nf (by assumption) ?_|apply get_kd|with_unfolding_all rfl)
 exact tM hG rfl
 exact rfl
 apply Es_nil
 refine k_ca (h5) ?_
 apply hQ
 exact ⟨lr', T.n, q1, q2, q3, q4⟩
end
noncomputable abbrev pa : List Nat := [47, 97]
noncomputable abbrev wtOb (n ses last : Int) (ev : Nat) : AO := .inst 445 [(126883592042095, .int n), (31367324937512564, .int ses), (1769300593, .str pa), (1701800556, .str [101, 110, 116, 114, 121]), (500269479284, .bool true), (1970561645, .int last), (128047728981862, .ref ev), (435510536807, .bool false)]
structure Ew where
 r : Nat
 q : Int × List Nat
noncomputable abbrev Ew.rf (x : Ew) : AV := .ref x.r
noncomputable abbrev Ew.vs (x : Ew) : List AV := [.int x.q.1, .str x.q.2, .str pa]
structure EvAt (T : Hp) (ev : Nat) (ws : List Ew) : Prop where
 h : T.get ev = some (.list (ws.map Ew.rf))
 he : ∀ x ∈ ws, T.get x.r = some (.tuple x.vs)
theorem EvAt.upd {T T' : Hp} {P : Nat → AO → Prop} {ev : Nat} {ws : List Ew} (h : EvAt T ev ws) (u : Upd T.n P T T') (hl : P ev (.list (ws.map Ew.rf))) (hp : ∀ x vs, T.get x = some (.tuple vs) → P x (.tuple vs)) : EvAt T' ev ws := ⟨u.get hl h.h, fun x m => u.get (hp _ _ (h.he x m)) (h.he x m)⟩
theorem EvAt.add {T T1 : Hp} {ev : Nat} {ws : List Ew} {x : Ew} {P : Nat → AO → Prop} (h : EvAt T ev ws) (u : Upd T.n P T T1) (g : T1.get ev = some (.list (ws.map Ew.rf))) (hp : ∀ x vs, T.get x = some (.tuple vs) → P x (.tuple vs)) (gx : T1.get x.r = some (.tuple x.vs)) : EvAt (hput T1 ev (.list (ws.map Ew.rf ++ [.ref x.r]))) ev (ws ++ [x]) := by
 refine ⟨by rw [List.map_append]; exact get_put g, fun y my => ?_⟩
 rcases List.mem_append.mp my with my | my
 ·exact get_kd g (u.get (hp _ _ (h.he y my)) (h.he y my)) rfl
 ·cases List.mem_singleton.mp my; exact get_kd g gx rfl
noncomputable def chW (ch : Ch) : List Nat := match ch with | .create .. => [99, 114, 101, 97, 116, 101] | .set .. => [115, 101, 116]
noncomputable def chP (ch : Ch) : List Nat := match ch with | .create p .. => p | .set p _ => p
theorem ChAt.two {T : Hp} {cr : Nat} {ch : Ch} (h : ChAt T cr ch) : ∃ z, T.get cr = some (.tuple [.str (chW ch), .str (chP ch), z]) := by
 cases ch with
 | create => obtain ⟨g, h, _⟩ := h; exact ⟨_, h⟩
 | set => exact ⟨_, h⟩
section
variable {c : Cx} (ok : Ok c) (hG : c.G = G) {d s w lo ev cr cl : Nat} {T : Hp} {es : Es} {sf : SF} {n ses last rev : Int} {wd : List Nat} {z : AV} {ws : List Ew}
include ok hG
theorem watch_init {since : Int} (hn : 1 ≤ T.n) : CaP c (hnew T (.inst 445 [])) 407 [.ref T.n, .int n, .int ses, .str pa, .str [101, 110, 116, 114, 121], .bool true, .int since] (d + 1) fun u T' => u = .none ∧ ∃ ev, T'.get T.n = some (wtOb n ses since ev) ∧ T'.get ev = some (.list []) ∧ T.n ≤ ev ∧ Upd T.n All T T' := by
 have hK : lk c.G.top 393 = some [.str [101, 110, 116, 114, 121], .str [99, 104, 105, 108, 100, 114, 101, 110], .str [98, 101, 108, 111, 119]] := by rw [hG]; rfl
 refine C_funQ ok (l := [(1735222900, _), (126883592042095, _), (31367324937512564, _), (1769300593, _), (1701800556, _), (500269479284, _), (439771687540, _)]) (tF hG rfl) rfl fun Qz hQ => ?_
 apply X_consP
 apply S_if
 apply T_cmpP
 refine E_loc rfl ?_
 refine E_glb ok (tG hG rfl) ?_
 refine k_cm false (cmt (C_ninO ok hK rfl) rfl) ?_
 apply X_nilP
 apply X_consP
 apply S_asgL ok
 refine E_loc rfl ?_
 apply k_al
 exact rfl
 ·(with_reducible repeat' first|assumption|exact get_new _ _|apply get_put|apply get_old|refine get_nf (by assumption) ?_|apply get_kd|with_unfolding_all rfl)
 exact tA hG rfl
 exact lb rfl
 first | assumption | exact Nat.le_add_left 1 _ | exact lb rfl
 apply X_consP
 apply S_asgL ok
 refine E_loc rfl ?_
 apply k_al
 exact rfl
 ·(with_reducible repeat' first|assumption|exact get_new _ _|apply get_put|apply get_old|refine get_nf (by assumption) ?_|apply get_kd|with_unfolding_all rfl)
 exact tA hG rfl
 exact lb rfl
 first | assumption | exact Nat.le_add_left 1 _ | exact lb rfl
 apply X_consP
 apply S_asgL ok
 refine E_loc rfl ?_
 apply k_al
 exact rfl
 ·(with_reducible repeat' first|assumption|exact get_new _ _|apply get_put|apply get_old|refine get_nf (by assumption) ?_|apply get_kd|with_unfolding_all rfl)
 exact tA hG rfl
 exact lb rfl
 first | assumption | exact Nat.le_add_left 1 _ | exact lb rfl
 apply X_consP
 apply S_asgL ok
 refine E_loc rfl ?_
 apply k_al
 exact rfl
 ·(with_reducible repeat' first|assumption|exact get_new _ _|apply get_put|apply get_old|refine get_nf (by assumption) ?_|apply get_kd|with_unfolding_all rfl)
 exact tA hG rfl
 exact lb rfl
 first | assumption | exact Nat.le_add_left 1 _ | exact lb rfl
 apply X_consP
 apply S_asgL ok
 refine E_loc rfl ?_
 apply k_al
 exact rfl
 ·(with_reducible repeat' first|assumption|exact get_new _ _|apply get_put|apply get_old|refine get_nf (by assumption) ?_|apply get_kd|with_unfolding_all rfl)
 exact tA hG rfl
 exact lb rfl
 first | assumption | exact Nat.le_add_left 1 _ | exact lb rfl
 apply X_consP
 apply S_asgL ok
 refine E_loc rfl ?_
 apply k_al
 exact rfl
 ·(with_reducible repeat' first|assumption|exact get_new _ _|apply get_put|apply get_old|refine get_nf (by assumption) ?_|apply get_kd|with_unfolding_all rfl)
 exact tA hG rfl
 exact lb rfl
 first | assumption | exact Nat.le_add_left 1 _ | exact lb rfl
 apply X_consP
 apply S_asgL ok
 apply E_list
 apply Es_nil
 refine k_sh (lb rfl) ?_
 apply k_al
 exact rfl
 ·(with_reducible repeat' first|assumption|exact get_new _ _|apply get_put|apply get_old|refine get_nf (by assumption) ?_|apply get_kd|with_unfolding_all rfl)
 exact tA hG rfl
 exact lb rfl
 first | assumption | exact Nat.le_add_left 1 _ | exact lb rfl
 apply X_consP
 apply S_asgL ok
 apply E_bool
 apply k_al
 exact rfl
 ·(with_reducible repeat' first|assumption|exact get_new _ _|apply get_put|apply get_old|refine get_nf (by assumption) ?_|apply get_kd|with_unfolding_all rfl)
 exact tA hG rfl
 exact lb rfl
 first | assumption | exact Nat.le_add_left 1 _ | exact lb rfl
 apply X_nilP
 apply hQ
 refine ⟨rfl, _, get_put (by (with_reducible repeat' first|assumption|exact get_new _ _|apply get_put|apply get_old|refine get_nf (by assumption) ?_|apply get_kd|with_unfolding_all rfl)), by (with_reducible repeat' first|assumption|exact get_new _ _|apply get_put|apply get_old|refine get_nf (by assumption) ?_|apply get_kd|with_unfolding_all rfl), Nat.le_succ _, by (with_reducible repeat' first|assumption|exact Upd.refl|apply Upd.new|apply Upd.put|apply Upd.leA)⟩
theorem concerns_ok (hw : T.get w = some (wtOb n ses last ev)) (hc : T.get cr = some (.tuple [.str wd, .str pa, z])) : CaP c T 414 [.ref w, .ref cr] (d + 1) fun v T' => v = .bool true ∧ Upd T.n All T T' := by
 refine C_funL ok (l := [(1735222900, _), (112598731352420, _)]) (tF hG rfl) rfl fun lz hz Qz hQ => ?_
 have hz0 := hz 1735222900 _ rfl
 have hz1 := hz 112598731352420 _ rfl
 clear hz
 apply X_consP
 apply S_asgW
 apply E_tuple
 apply Es_cons
 apply E_sub
 refine E_loc (by with_reducible repeat' first|assumption|exact lk_same|apply lk_else|apply lk_drop|with_unfolding_all rfl) ?_
 apply E_int
 refine k_it (by first|exact I_tuple (j := 0) (by (with_reducible repeat' first|assumption|exact get_new _ _|apply get_put|apply get_old|refine get_nf (by assumption) ?_|apply get_kd|with_unfolding_all rfl)) rfl (lb rfl)|exact I_list (j := 0) (by (with_reducible repeat' first|assumption|exact get_new _ _|apply get_put|apply get_old|refine get_nf (by assumption) ?_|apply get_kd|with_unfolding_all rfl)) rfl (lb rfl)) ?_
 apply Es_cons
 apply E_sub
 refine E_loc (by with_reducible repeat' first|assumption|exact lk_same|apply lk_else|apply lk_drop|with_unfolding_all rfl) ?_
 apply E_int
 refine k_it (by first|exact I_tuple (j := 1) (by (with_reducible repeat' first|assumption|exact get_new _ _|apply get_put|apply get_old|refine get_nf (by assumption) ?_|apply get_kd|with_unfolding_all rfl)) rfl (lb rfl)|exact I_list (j := 1) (by (with_reducible repeat' first|assumption|exact get_new _ _|apply get_put|apply get_old|refine get_nf (by assumption) ?_|apply get_kd|with_unfolding_all rfl)) rfl (lb rfl)) ?_
 apply Es_nil
 refine k_sh (lb rfl) ?_
 apply k_tw
 ·(with_reducible repeat' first|assumption|exact get_new _ _|apply get_put|apply get_old|refine get_nf (by assumption) ?_|apply get_kd|with_unfolding_all rfl)
 exact rfl
 apply X_consP
 apply S_if
 apply T_cmpP
 apply E_la ok
 exact (by with_reducible repeat' first|assumption|exact lk_same|apply lk_else|apply lk_drop|with_unfolding_all rfl)
 ·(with_reducible repeat' first|assumption|exact get_new _ _|apply get_put|apply get_old|refine get_nf (by assumption) ?_|apply get_kd|with_unfolding_all rfl)
 exact tA hG rfl
 exact rfl
 apply E_str
 refine k_cm true (C_eq rfl) ?_
 apply X_consP
 apply S_ret
 apply E_cmp
 refine E_loc (by with_reducible repeat' first|assumption|exact lk_same|apply lk_else|apply lk_drop|with_unfolding_all rfl) ?_
 apply E_la ok
 exact (by with_reducible repeat' first|assumption|exact lk_same|apply lk_else|apply lk_drop|with_unfolding_all rfl)
 ·(with_reducible repeat' first|assumption|exact get_new _ _|apply get_put|apply get_old|refine get_nf (by assumption) ?_|apply get_kd|with_unfolding_all rfl)
 exact tA hG rfl
 exact rfl
 refine k_cm _ (C_eq rfl) ?_
 apply hQ
 exact ⟨rfl, Upd.refl.new⟩
theorem see_ok (hw : T.get w = some (wtOb n ses last ev)) (pw : 1 ≤ w) (hc : T.get cr = some (.tuple [.str wd, .str pa, z])) (hcl : T.get cl = some (.list [.ref cr])) (hev : EvAt T ev ws) (pe : 1 ≤ ev) (ne : cl ≠ ev) (hlt : last < rev) (sz : ws.length < 15) : CaP c T 421 [.ref w, .int rev, .ref cl] (d + 2) fun v T' => v = .none ∧ ∃ x : Ew, x.q = (rev, wd) ∧ T'.get w = some (wtOb n ses rev ev) ∧ EvAt T' ev (ws ++ [x]) ∧ Upd T.n (fun r _ => r ≠ w ∧ r ≠ ev) T T' := by
 have u1 : Upd T.n (But w) T (hput T w (wtOb n ses rev ev)) := Upd.refl.set (fun _ k => k rfl) hw
 have hw1 : (hput T w (wtOb n ses rev ev)).get w = some (wtOb n ses rev ev) := get_put hw
 have hc1 := u1.get (ne_kd hw hc rfl) hc
 have hcl1 := u1.get (ne_kd hw hcl rfl) hcl
 have he1 := u1.get (ne_kd hw hev.h rfl) hev.h
 obtain ⟨_, T2, h2, rfl, u2⟩ := concerns_ok ok hG (d := d) hw1 hc1
 have hw2 := u2.get trivial hw1
 have hc2 := u2.get trivial hc1
 have hcl2 := u2.get trivial hcl1
 have he2 := u2.get trivial he1
 have u02 : Upd T.n (But w) T T2 := u1.then u2.a u1.1
 have szm : (ws.map Ew.rf).length < 4000 := by rw [List.length_map]; omega
 have he4 : (hput (hnew T2 (.tuple [.int rev, .str wd, .str pa])) ev (.list (ws.map Ew.rf ++ [.ref T2.n]))).get ev = some (.list (ws.map Ew.rf ++ [.ref T2.n])) := get_put (get_old he2)
 have hw4 : (hput (hnew T2 (.tuple [.int rev, .str wd, .str pa])) ev (.list (ws.map Ew.rf ++ [.ref T2.n]))).get w = some (wtOb n ses rev ev) := get_kd (get_old he2) (get_old hw2) rfl
 have hcl4 : (hput (hnew T2 (.tuple [.int rev, .str wd, .str pa])) ev (.list (ws.map Ew.rf ++ [.ref T2.n]))).get cl = some (.list [.ref cr]) := get_nf ne (get_old hcl2)
 have hev4 : EvAt (hput (hnew T2 (.tuple [.int rev, .str wd, .str pa])) ev (.list (ws.map Ew.rf ++ [.ref T2.n]))) ev (ws ++ [⟨T2.n, (rev, wd)⟩]) := hev.add (x := ⟨T2.n, (rev, wd)⟩) u02.new (get_old he2) (fun x vs g => ne_kd hw g rfl) (get_new _ _)
 refine C_funL ok (l := [(1735222900, _), (8030035183836554867, _), (32763696029788516, _)]) (tF hG rfl) rfl fun lz hz Qz hQ => ?_
 have hz0 := hz 1735222900 _ rfl
 have hz1 := hz 8030035183836554867 _ rfl
 have hz2 := hz 32763696029788516 _ rfl
 clear hz
 apply X_consP
 apply S_if
 apply T_orP
 apply Ts_goP
 apply T_cmpP
 refine E_loc (by with_reducible repeat' first|assumption|exact lk_same|apply lk_else|apply lk_drop|with_unfolding_all rfl) ?_
 apply E_la ok
 exact (by with_reducible repeat' first|assumption|exact lk_same|apply lk_else|apply lk_drop|with_unfolding_all rfl)
 ·(with_reducible repeat' first|assumption|exact get_new _ _|apply get_put|apply get_old|refine get_nf (by assumption) ?_|apply get_kd|with_unfolding_all rfl)
 exact tA hG rfl
 exact rfl
 refine k_cm false (cmt C_le (decide_eq_false (by omega))) ?_
 apply k_ye
 apply Ts_goP
 refine T_plainP rfl ?_
 apply E_la ok
 exact (by with_reducible repeat' first|assumption|exact lk_same|apply lk_else|apply lk_drop|with_unfolding_all rfl)
 ·(with_reducible repeat' first|assumption|exact get_new _ _|apply get_put|apply get_old|refine get_nf (by assumption) ?_|apply get_kd|with_unfolding_all rfl)
 exact tA hG rfl
 exact rfl
 apply k_bl
 apply k_ye
 apply Ts_nilP
 apply X_nilP
 apply X_consP
 apply S_asgL ok
 refine E_loc (by with_reducible repeat' first|assumption|exact lk_same|apply lk_else|apply lk_drop|with_unfolding_all rfl) ?_
 apply k_al
 exact (by with_reducible repeat' first|assumption|exact lk_same|apply lk_else|apply lk_drop|with_unfolding_all rfl)
 ·(with_reducible repeat' first|assumption|exact get_new _ _|apply get_put|apply get_old|refine get_nf (by assumption) ?_|apply get_kd|with_unfolding_all rfl)
 exact tA hG rfl
 exact lb rfl
 first | assumption | exact Nat.le_add_left 1 _ | exact lb rfl
 apply X_consP
 apply S_for
 refine E_loc (by with_reducible repeat' first|assumption|exact lk_same|apply lk_else|apply lk_drop|with_unfolding_all rfl) ?_
 refine k_ik (ikL hcl1) ?_
 refine L_nextP (turnL hcl1 rfl) (bind_one) ?_
 apply X_consP
 apply S_if
 apply T_andP
 apply Ts_goP
 refine T_plainP rfl ?_
 apply E_lm ok
 exact (by with_reducible repeat' first|assumption|exact lk_same|apply lk_else|apply lk_drop|with_unfolding_all rfl)
 ·(with_reducible repeat' first|assumption|exact get_new _ _|apply get_put|apply get_old|refine get_nf (by assumption) ?_|apply get_kd|with_unfolding_all rfl)
 exact tM hG rfl
 exact rfl
 refine Es_loc (by with_reducible repeat' first|assumption|exact lk_same|apply lk_else|apply lk_drop|with_unfolding_all rfl) ?_
 apply Es_nil
 refine k_ca (h2) ?_
 apply k_bl
 apply k_ye
 apply Ts_goP
 apply T_notP
 refine T_plainP rfl ?_
 apply E_la ok
 exact (by with_reducible repeat' first|assumption|exact lk_same|apply lk_else|apply lk_drop|with_unfolding_all rfl)
 ·(with_reducible repeat' first|assumption|exact get_new _ _|apply get_put|apply get_old|refine get_nf (by assumption) ?_|apply get_kd|with_unfolding_all rfl)
 exact tA hG rfl
 exact rfl
 apply k_bl
 apply k_ye
 apply Ts_nilP
 apply X_consP
 apply S_expr
 apply E_methB
 apply E_la ok
 exact (by with_reducible repeat' first|assumption|exact lk_same|apply lk_else|apply lk_drop|with_unfolding_all rfl)
 ·(with_reducible repeat' first|assumption|exact get_new _ _|apply get_put|apply get_old|refine get_nf (by assumption) ?_|apply get_kd|with_unfolding_all rfl)
 exact tA hG rfl
 exact rfl
 refine k_bg ((G_append (by (with_reducible repeat' first|assumption|exact get_new _ _|apply get_put|apply get_old|refine get_nf (by assumption) ?_|apply get_kd|with_unfolding_all rfl)))) ?_
 apply Es_cons
 apply E_tuple
 refine Es_loc (by with_reducible repeat' first|assumption|exact lk_same|apply lk_else|apply lk_drop|with_unfolding_all rfl) ?_
 apply Es_cons
 apply E_sub
 refine E_loc (by with_reducible repeat' first|assumption|exact lk_same|apply lk_else|apply lk_drop|with_unfolding_all rfl) ?_
 apply E_int
 refine k_it (by first|exact I_tuple (j := 0) (by (with_reducible repeat' first|assumption|exact get_new _ _|apply get_put|apply get_old|refine get_nf (by assumption) ?_|apply get_kd|with_unfolding_all rfl)) rfl (lb rfl)|exact I_list (j := 0) (by (with_reducible repeat' first|assumption|exact get_new _ _|apply get_put|apply get_old|refine get_nf (by assumption) ?_|apply get_kd|with_unfolding_all rfl)) rfl (lb rfl)) ?_
 apply Es_cons
 apply E_sub
 refine E_loc (by with_reducible repeat' first|assumption|exact lk_same|apply lk_else|apply lk_drop|with_unfolding_all rfl) ?_
 apply E_int
 refine k_it (by first|exact I_tuple (j := 1) (by (with_reducible repeat' first|assumption|exact get_new _ _|apply get_put|apply get_old|refine get_nf (by assumption) ?_|apply get_kd|with_unfolding_all rfl)) rfl (lb rfl)|exact I_list (j := 1) (by (with_reducible repeat' first|assumption|exact get_new _ _|apply get_put|apply get_old|refine get_nf (by assumption) ?_|apply get_kd|with_unfolding_all rfl)) rfl (lb rfl)) ?_
 apply Es_nil
 refine k_sh (lb rfl) ?_
 apply Es_nil
 refine k_bm (M_append (get_old he2) szm pe) ?_
 apply X_consP
 apply S_asgL ok
 apply E_not
 apply E_la ok
 exact (by with_reducible repeat' first|assumption|exact lk_same|apply lk_else|apply lk_drop|with_unfolding_all rfl)
 exact hw4
 exact tA hG rfl
 exact rfl
 apply k_bl
 apply k_al
 exact (by with_reducible repeat' first|assumption|exact lk_same|apply lk_else|apply lk_drop|with_unfolding_all rfl)
 exact hw4
 exact tA hG rfl
 exact lb rfl
 first | assumption | exact Nat.le_add_left 1 _ | exact lb rfl
 apply X_nilP
 apply X_nilP
 refine L_endP (turnL (get_kd hw4 hcl4 rfl) rfl) ?_
 apply X_consP
 apply S_if
 apply T_cmpP
 refine E_callB ok (tG hG rfl) (by first | exact .inl ⟨_, rfl⟩ | exact .inr ⟨_, rfl⟩) ?_
 apply Es_cons
 apply E_la ok
 exact (by with_reducible repeat' first|assumption|exact lk_same|apply lk_else|apply lk_drop|with_unfolding_all rfl)
 ·(with_reducible repeat' first|assumption|exact get_new _ _|apply get_put|apply get_old|refine get_nf (by assumption) ?_|apply get_kd|with_unfolding_all rfl)
 exact tA hG rfl
 exact rfl
 apply Es_nil
 refine k_bc (B_lenL (get_kd hw4 he4 rfl) (by rw [List.length_append, List.length_map]; exact Nat.lt_trans (Nat.succ_lt_succ sz) (lb rfl))) ?_
 refine E_glb ok (tG hG rfl) ?_
 refine k_cm false (cmt C_gt (decide_eq_false (by rw [List.length_append, List.length_map]; show ¬ (20 : Int) < ((ws.length + 1 : Nat) : Int); omega))) ?_
 apply X_nilP
 apply X_nilP
 apply hQ
 refine ⟨rfl, ⟨T2.n, (rev, wd)⟩, rfl, get_put hw4, ⟨get_kd hw4 hev4.h rfl, fun y my => get_kd hw4 (hev4.he y my) rfl⟩, ?_⟩
 exact ((u02.weak (Nat.le_refl _) fun _ _ p => p.1).new.set (fun _ k => k.2 rfl) hev.h).set (fun _ k => k.1 rfl) hw
theorem anew_ok (hw : T.get w = some (wtOb n ses last ev)) (pw : 1 ≤ w) : CaP c T 428 [.ref w, .int rev] (d + 1) fun v T' => v = .none ∧ ∃ (x : Ew) (ev' : Nat), x.q = (rev, [97, 110, 101, 119]) ∧ T'.get w = some (wtOb n ses rev ev') ∧ EvAt T' ev' [x] ∧ T.n ≤ ev' ∧ Upd T.n (But w) T T' := by
 refine C_funL ok (l := [(1735222900, _), (8030035183836554867, _)]) (tF hG rfl) rfl fun lz hz Qz hQ => ?_
 have hz0 := hz 1735222900 _ rfl
 have hz1 := hz 8030035183836554867 _ rfl
 clear hz
 apply X_consP
 apply S_asgL ok
 refine E_loc (by with_reducible repeat' first|assumption|exact lk_same|apply lk_else|apply lk_drop|with_unfolding_all rfl) ?_
 apply k_al
 exact (by with_reducible repeat' first|assumption|exact lk_same|apply lk_else|apply lk_drop|with_unfolding_all rfl)
 ·(with_reducible repeat' first|assumption|exact get_new _ _|apply get_put|apply get_old|refine get_nf (by assumption) ?_|apply get_kd|with_unfolding_all rfl)
 exact tA hG rfl
 exact lb rfl
 first | assumption | exact Nat.le_add_left 1 _ | exact lb rfl
 apply X_consP
 apply S_asgL ok
 apply E_list
 apply Es_cons
 apply E_tuple
 refine Es_loc (by with_reducible repeat' first|assumption|exact lk_same|apply lk_else|apply lk_drop|with_unfolding_all rfl) ?_
 apply Es_cons
 apply E_str
 apply Es_cons
 apply E_la ok
 exact (by with_reducible repeat' first|assumption|exact lk_same|apply lk_else|apply lk_drop|with_unfolding_all rfl)
 ·(with_reducible repeat' first|assumption|exact get_new _ _|apply get_put|apply get_old|refine get_nf (by assumption) ?_|apply get_kd|with_unfolding_all rfl)
 exact tA hG rfl
 exact rfl
 apply Es_nil
 refine k_sh (lb rfl) ?_
 apply Es_nil
 refine k_sh (lb rfl) ?_
 apply k_al
 exact (by with_reducible repeat' first|assumption|exact lk_same|apply lk_else|apply lk_drop|with_unfolding_all rfl)
 ·(with_reducible repeat' first|assumption|exact get_new _ _|apply get_put|apply get_old|refine get_nf (by assumption) ?_|apply get_kd|with_unfolding_all rfl)
 exact tA hG rfl
 exact lb rfl
 first | assumption | exact Nat.le_add_left 1 _ | exact lb rfl
 apply X_consP
 apply S_asgL ok
 apply E_not
 apply E_la ok
 exact (by with_reducible repeat' first|assumption|exact lk_same|apply lk_else|apply lk_drop|with_unfolding_all rfl)
 ·(with_reducible repeat' first|assumption|exact get_new _ _|apply get_put|apply get_old|refine get_nf (by assumption) ?_|apply get_kd|with_unfolding_all rfl)
 exact tA hG rfl
 exact rfl
 apply k_bl
 apply k_al
 exact (by with_reducible repeat' first|assumption|exact lk_same|apply lk_else|apply lk_drop|with_unfolding_all rfl)
 ·(with_reducible repeat' first|assumption|exact get_new _ _|apply get_put|apply get_old|refine get_nf (by assumption) ?_|apply get_kd|with_unfolding_all rfl)
 exact tA hG rfl
 exact lb rfl
 first | assumption | exact Nat.le_add_left 1 _ | exact lb rfl
 apply X_nilP
 apply hQ
 have g1 : (hput T w (wtOb n ses rev ev)).get w = some (wtOb n ses rev ev) := get_put hw
 have g3 : (hnew (hnew (hput T w (wtOb n ses rev ev)) (.tuple [.int rev, .str [97, 110, 101, 119], .str pa])) (.list [.ref (hput T w (wtOb n ses rev ev)).n])).get w = some (wtOb n ses rev ev) := get_old (get_old g1)
 have g4 : (hput (hnew (hnew (hput T w (wtOb n ses rev ev)) (.tuple [.int rev, .str [97, 110, 101, 119], .str pa])) (.list [.ref (hput T w (wtOb n ses rev ev)).n])) w (wtOb n ses rev (hnew (hput T w (wtOb n ses rev ev)) (.tuple [.int rev, .str [97, 110, 101, 119], .str pa])).n)).get w = some (wtOb n ses rev (hnew (hput T w (wtOb n ses rev ev)) (.tuple [.int rev, .str [97, 110, 101, 119], .str pa])).n) := get_put g3
 refine ⟨rfl, ⟨(hput T w (wtOb n ses rev ev)).n, (rev, [97, 110, 101, 119])⟩, (hnew (hput T w (wtOb n ses rev ev)) (.tuple [.int rev, .str [97, 110, 101, 119], .str pa])).n, rfl, get_put g4, ⟨get_kd g4 (get_kd g3 (get_new _ _) rfl) rfl, fun y my => ?_⟩, Nat.le_succ _, ?_⟩
 ·cases List.mem_singleton.mp my
  exact get_kd g4 (get_kd g3 (get_old (get_new _ _)) rfl) rfl
 ·exact (((Upd.refl.set (fun _ k => k rfl) hw).new.new.set (fun _ k => k rfl) hw).set (fun _ k => k rfl) hw)
theorem seen_ok {x : Sn} {ss : List Sn} {ep bf : Nat} {e : En} (hs : T.get s = some sf.ob) (se : SesAt T sf.ses ep ss) (mx : x ∈ ss) (hw : T.get w = some (wtOb n x.num last ev)) (hc : T.get cr = some (.tuple [.str wd, .str pa, z])) (hcl : T.get cl = some (.list [.ref cr]) ∨ T.get cl = some (.tuple [.ref cr])) (tr : TreeAt T lo sf.tree es) (m : (pa, e) ∈ es) (rc : Rch es pa) (hu : x.u ≠ [42]) (hn : 1 ≤ T.n) : CaP c T 573 [.ref s, .ref w, .ref cl, .ref bf] (d + 6) fun v T' => ∃ r, v = .ref r ∧ T'.get r = some (.list [.ref cr]) ∧ T.n ≤ r ∧ Upd T.n All T T' := by
 obtain ⟨l1, hh, gx⟩ := se.he x mx
 have q := dlk_ses mx se.nd
 have hh1 := has_yes ok hG (d := d + 4) (tr.all (Upd.refl.new (o := .list []))) m
 obtain ⟨_, T2, h2, rfl, u2⟩ := may_ok ok hG (d := d) (tr.all (Upd.refl.new (o := .list []))) rc hu (x := 114) rfl
 obtain ⟨dr, ep2, xs, t3, hx⟩ := id tr
 have ht := t3.ht
 have g2 : T2.get T.n = some (.list []) := u2.get trivial (get_new _ _)
 rcases hcl with hcl | hcl
 ·have hcl2 := u2.get trivial (get_old hcl)
  have ne : cl ≠ T.n := Nat.ne_of_lt (lt_of_get hcl)
  refine C_funL ok (l := [(1735222900, _), (452656980600, _), (32763696029788516, _), (112645993096803, _)]) (tF hG rfl) rfl fun lz hz Qz hQ => ?_
  have hz0 := hz 1735222900 _ rfl
  have hz1 := hz 452656980600 _ rfl
  have hz2 := hz 32763696029788516 _ rfl
  have hz3 := hz 112645993096803 _ rfl
  clear hz
  apply X_consP
  apply S_asg
  apply E_attr ok
  apply E_sub
  apply E_la ok
  exact (by with_reducible repeat' first|assumption|exact lk_same|apply lk_else|apply lk_drop|with_unfolding_all rfl)
  ·(with_reducible repeat' first|assumption|exact get_new _ _|apply get_put|apply get_old|refine get_nf (by assumption) ?_|apply get_kd|with_unfolding_all rfl)
  exact tA hG rfl
  exact rfl
  apply E_la ok
  exact (by with_reducible repeat' first|assumption|exact lk_same|apply lk_else|apply lk_drop|with_unfolding_all rfl)
  ·(with_reducible repeat' first|assumption|exact get_new _ _|apply get_put|apply get_old|refine get_nf (by assumption) ?_|apply get_kd|with_unfolding_all rfl)
  exact tA hG rfl
  exact rfl
  refine k_it (I_dict se.hd kOk_ses q) ?_
  apply k_at2
  exact gx
  exact tA hG rfl
  exact rfl
  apply X_consP
  apply S_asg
  apply E_list
  apply Es_nil
  refine k_sh (lb rfl) ?_
  apply X_consP
  apply S_for
  refine E_loc (by with_reducible repeat' first|assumption|exact lk_same|apply lk_else|apply lk_drop|with_unfolding_all rfl) ?_
  refine k_ik (ikL (get_old hcl)) ?_
  refine L_nextP (turnL (get_old hcl) rfl) (bind_one) ?_
  apply X_consP
  apply S_asg
  apply E_la ok
  exact (by with_reducible repeat' first|assumption|exact lk_same|apply lk_else|apply lk_drop|with_unfolding_all rfl)
  ·(with_reducible repeat' first|assumption|exact get_new _ _|apply get_put|apply get_old|refine get_nf (by assumption) ?_|apply get_kd|with_unfolding_all rfl)
  exact tA hG rfl
  exact rfl
  apply X_consP
  apply S_if
  apply T_notP
  refine T_plainP rfl ?_
  apply E_lm ok
  exact (by with_reducible repeat' first|assumption|exact lk_same|apply lk_else|apply lk_drop|with_unfolding_all rfl)
  ·(with_reducible repeat' first|assumption|exact get_new _ _|apply get_put|apply get_old|refine get_nf (by assumption) ?_|apply get_kd|with_unfolding_all rfl)
  exact tM hG rfl
  exact rfl
  apply Es_cons
  apply E_sub
  refine E_loc (by with_reducible repeat' first|assumption|exact lk_same|apply lk_else|apply lk_drop|with_unfolding_all rfl) ?_
  apply E_int
  refine k_it (by first|exact I_tuple (j := 1) (by (with_reducible repeat' first|assumption|exact get_new _ _|apply get_put|apply get_old|refine get_nf (by assumption) ?_|apply get_kd|with_unfolding_all rfl)) rfl (lb rfl)|exact I_list (j := 1) (by (with_reducible repeat' first|assumption|exact get_new _ _|apply get_put|apply get_old|refine get_nf (by assumption) ?_|apply get_kd|with_unfolding_all rfl)) rfl (lb rfl)) ?_
  apply Es_nil
  refine k_ca (hh1) ?_
  apply k_bl
  apply X_nilP
  apply X_consP
  apply S_if
  refine T_plainP rfl ?_
  refine E_callF ok (tG hG rfl) (tF hG rfl) ?_
  refine Es_loc (by with_reducible repeat' first|assumption|exact lk_same|apply lk_else|apply lk_drop|with_unfolding_all rfl) ?_
  apply Es_cons
  apply E_sub
  refine E_loc (by with_reducible repeat' first|assumption|exact lk_same|apply lk_else|apply lk_drop|with_unfolding_all rfl) ?_
  apply E_int
  refine k_it (by first|exact I_tuple (j := 1) (by (with_reducible repeat' first|assumption|exact get_new _ _|apply get_put|apply get_old|refine get_nf (by assumption) ?_|apply get_kd|with_unfolding_all rfl)) rfl (lb rfl)|exact I_list (j := 1) (by (with_reducible repeat' first|assumption|exact get_new _ _|apply get_put|apply get_old|refine get_nf (by assumption) ?_|apply get_kd|with_unfolding_all rfl)) rfl (lb rfl)) ?_
  refine Es_loc (by with_reducible repeat' first|assumption|exact lk_same|apply lk_else|apply lk_drop|with_unfolding_all rfl) ?_
  apply Es_cons
  apply E_str
  apply Es_nil
  refine k_ca (h2) ?_
  apply k_bl
  apply X_consP
  apply S_expr
  apply E_methB
  refine E_loc (by with_reducible repeat' first|assumption|exact lk_same|apply lk_else|apply lk_drop|with_unfolding_all rfl) ?_
  refine k_bg ((G_append (by (with_reducible repeat' first|assumption|exact get_new _ _|apply get_put|apply get_old|refine get_nf (by assumption) ?_|apply get_kd|with_unfolding_all rfl)))) ?_
  refine Es_loc (by with_reducible repeat' first|assumption|exact lk_same|apply lk_else|apply lk_drop|with_unfolding_all rfl) ?_
  apply Es_nil
  refine k_bm (M_append g2 (lb rfl) hn) ?_
  apply X_nilP
  apply X_nilP
  refine L_endP (turnL (get_nf ne hcl2) rfl) ?_
  apply X_consP
  apply S_ret
  refine E_loc (by with_reducible repeat' first|assumption|exact lk_same|apply lk_else|apply lk_drop|with_unfolding_all rfl) ?_
  apply hQ
  exact ⟨_, rfl, get_put g2, Nat.le_refl _, (Upd.refl.new.then u2 (Nat.le_succ _)).put (Nat.le_refl _)⟩
 ·have hcl2 := u2.get trivial (get_old hcl)
  refine C_funL ok (l := [(1735222900, _), (452656980600, _), (32763696029788516, _), (112645993096803, _)]) (tF hG rfl) rfl fun lz hz Qz hQ => ?_
  have hz0 := hz 1735222900 _ rfl
  have hz1 := hz 452656980600 _ rfl
  have hz2 := hz 32763696029788516 _ rfl
  have hz3 := hz 112645993096803 _ rfl
  clear hz
  apply X_consP
  apply S_asg
  apply E_attr ok
  apply E_sub
  apply E_la ok
  exact (by with_reducible repeat' first|assumption|exact lk_same|apply lk_else|apply lk_drop|with_unfolding_all rfl)
  ·(with_reducible repeat' first|assumption|exact get_new _ _|apply get_put|apply get_old|refine get_nf (by assumption) ?_|apply get_kd|with_unfolding_all rfl)
  exact tA hG rfl
  exact rfl
  apply E_la ok
  exact (by with_reducible repeat' first|assumption|exact lk_same|apply lk_else|apply lk_drop|with_unfolding_all rfl)
  ·(with_reducible repeat' first|assumption|exact get_new _ _|apply get_put|apply get_old|refine get_nf (by assumption) ?_|apply get_kd|with_unfolding_all rfl)
  exact tA hG rfl
  exact rfl
  refine k_it (I_dict se.hd kOk_ses q) ?_
  apply k_at2
  exact gx
  exact tA hG rfl
  exact rfl
  apply X_consP
  apply S_asg
  apply E_list
  apply Es_nil
  refine k_sh (lb rfl) ?_
  apply X_consP
  apply S_for
  refine E_loc (by with_reducible repeat' first|assumption|exact lk_same|apply lk_else|apply lk_drop|with_unfolding_all rfl) ?_
  refine k_ik (ikT (get_old hcl)) ?_
  refine L_nextP (turnT (get_old hcl) rfl) (bind_one) ?_
  apply X_consP
  apply S_asg
  apply E_la ok
  exact (by with_reducible repeat' first|assumption|exact lk_same|apply lk_else|apply lk_drop|with_unfolding_all rfl)
  ·(with_reducible repeat' first|assumption|exact get_new _ _|apply get_put|apply get_old|refine get_nf (by assumption) ?_|apply get_kd|with_unfolding_all rfl)
  exact tA hG rfl
  exact rfl
  apply X_consP
  apply S_if
  apply T_notP
  refine T_plainP rfl ?_
  apply E_lm ok
  exact (by with_reducible repeat' first|assumption|exact lk_same|apply lk_else|apply lk_drop|with_unfolding_all rfl)
  ·(with_reducible repeat' first|assumption|exact get_new _ _|apply get_put|apply get_old|refine get_nf (by assumption) ?_|apply get_kd|with_unfolding_all rfl)
  exact tM hG rfl
  exact rfl
  apply Es_cons
  apply E_sub
  refine E_loc (by with_reducible repeat' first|assumption|exact lk_same|apply lk_else|apply lk_drop|with_unfolding_all rfl) ?_
  apply E_int
  refine k_it (by first|exact I_tuple (j := 1) (by (with_reducible repeat' first|assumption|exact get_new _ _|apply get_put|apply get_old|refine get_nf (by assumption) ?_|apply get_kd|with_unfolding_all rfl)) rfl (lb rfl)|exact I_list (j := 1) (by (with_reducible repeat' first|assumption|exact get_new _ _|apply get_put|apply get_old|refine get_nf (by assumption) ?_|apply get_kd|with_unfolding_all rfl)) rfl (lb rfl)) ?_
  apply Es_nil
  refine k_ca (hh1) ?_
  apply k_bl
  apply X_nilP
  apply X_consP
  apply S_if
  refine T_plainP rfl ?_
  refine E_callF ok (tG hG rfl) (tF hG rfl) ?_
  refine Es_loc (by with_reducible repeat' first|assumption|exact lk_same|apply lk_else|apply lk_drop|with_unfolding_all rfl) ?_
  apply Es_cons
  apply E_sub
  refine E_loc (by with_reducible repeat' first|assumption|exact lk_same|apply lk_else|apply lk_drop|with_unfolding_all rfl) ?_
  apply E_int
  refine k_it (by first|exact I_tuple (j := 1) (by (with_reducible repeat' first|assumption|exact get_new _ _|apply get_put|apply get_old|refine get_nf (by assumption) ?_|apply get_kd|with_unfolding_all rfl)) rfl (lb rfl)|exact I_list (j := 1) (by (with_reducible repeat' first|assumption|exact get_new _ _|apply get_put|apply get_old|refine get_nf (by assumption) ?_|apply get_kd|with_unfolding_all rfl)) rfl (lb rfl)) ?_
  refine Es_loc (by with_reducible repeat' first|assumption|exact lk_same|apply lk_else|apply lk_drop|with_unfolding_all rfl) ?_
  apply Es_cons
  apply E_str
  apply Es_nil
  refine k_ca (h2) ?_
  apply k_bl
  apply X_consP
  apply S_expr
  apply E_methB
  refine E_loc (by with_reducible repeat' first|assumption|exact lk_same|apply lk_else|apply lk_drop|with_unfolding_all rfl) ?_
  refine k_bg ((G_append (by (with_reducible repeat' first|assumption|exact get_new _ _|apply get_put|apply get_old|refine get_nf (by assumption) ?_|apply get_kd|with_unfolding_all rfl)))) ?_
  refine Es_loc (by with_reducible repeat' first|assumption|exact lk_same|apply lk_else|apply lk_drop|with_unfolding_all rfl) ?_
  apply Es_nil
  refine k_bm (M_append g2 (lb rfl) hn) ?_
  apply X_nilP
  apply X_nilP
  refine L_endP (turnT (get_kd g2 hcl2 rfl) rfl) ?_
  apply X_consP
  apply S_ret
  refine E_loc (by with_reducible repeat' first|assumption|exact lk_same|apply lk_else|apply lk_drop|with_unfolding_all rfl) ?_
  apply hQ
  exact ⟨_, rfl, get_put g2, Nat.le_refl _, (Upd.refl.new.then u2 (Nat.le_succ _)).put (Nat.le_refl _)⟩
end
theorem StP.imp {c : Cx} {d : Nat} {loc : Loc} {T : Hp} {s : PS} {N N' : Loc → Hp → Prop} {R R' : AV → Hp → Prop} (h : StP c d loc T s N R) (k : ∀ l T, N l T → N' l T) (k2 : ∀ v T, R v T → R' v T) : StP c d loc T s N' R' := by
 rcases h with ⟨l, T', h, n⟩ | ⟨v, T', h, n⟩
 ·exact .inl ⟨l, T', h, k l T' n⟩
 ·exact .inr ⟨v, T', h, k2 v T' n⟩
structure St4 (T : Hp) (s lr sp : Nat) (sf : SF) (sta : Int) (rows : List Rn) (es : Es) : Prop where
 hs : T.get s = some sf.ob
 ps : 1 ≤ s
 hl : T.get sf.log = some (logOb lr sp sta)
 pg : 1 ≤ sf.log
 hr : T.get lr = some (.list (rows.map Rn.rf))
 pl : 1 ≤ lr
 rn : ∀ x ∈ rows, RnAt T x
 tr : TreeAt T 1 sf.tree es
 lst : lastR sta rows = sf.rev
 rle : ∀ x ∈ rows, x.rev ≤ sf.rev
 sle : sta ≤ sf.rev
theorem St4.upd {T T' : Hp} {P : Nat → AO → Prop} {s lr sp : Nat} {sf : SF} {sta : Int} {rows : List Rn} {es : Es} (X : St4 T s lr sp sf sta rows es) (u : Upd T.n P T T') (k : ∀ r a, T.get r = some a → r = s ∨ r = sf.log ∨ r = lr ∨ Nat.beq (kd a) 2 = true ∨ (Nat.beq (kd a) (240 + 6) || Nat.beq (kd a) 0 || Nat.beq (kd a) (164 + 6)) = true → P r a) : St4 T' s lr sp sf sta rows es :=
 ⟨u.get (k _ _ X.hs (.inl rfl)) X.hs, X.ps, u.get (k _ _ X.hl (.inr (.inl rfl))) X.hl, X.pg, u.get (k _ _ X.hr (.inr (.inr (.inl rfl)))) X.hr, X.pl, fun y m => (X.rn y m).upd u (fun y vs g => k _ _ g (.inr (.inr (.inr (.inl rfl))))), X.tr.keep u (fun r a g q => k _ _ g (.inr (.inr (.inr (.inr q))))), X.lst, X.rle, X.sle⟩
theorem St4.new {T T' : Hp} {s lr sp : Nat} {sf : SF} {sta : Int} {rows : List Rn} {es : Es} (X : St4 T s lr sp sf sta rows es) (u : Upd T.n All T T') : St4 T' s lr sp sf sta rows es := X.upd u fun _ _ _ _ => trivial
theorem KQ.of {T T' : Hp} {x lr ev : Nat} {o : AO} (u : Upd T.n (But x) T T') (hx : T.get x = some o) (hk : kq o = false) : Upd T.n (KQ lr ev) T T' := ⟨u.1, fun r a lt k g => u.2 r a lt (fun e => by subst e; rw [hx] at g; cases g; have := k.2.2; rw [hk] at this; cases this) g⟩
noncomputable abbrev pbS : PS := (.ite (.and (.cons (.cmp .isnt (.attr (.loc 1735222900) 1902536300) .none) (.cons (.cmp .gt (.call (.glb 7300717) (.cons (.attr (.attr (.loc 1735222900) 6844525) 1954050163) .nil)) (.attr (.loc 1735222900) 1902536300)) .nil))) (.cons (.expr (.meth (.loc 1735222900) 33042946247782500 .nil)) .nil) .nil)
section
variable {c : Cx} (ok : Ok c) (hG : c.G = G) {d s lr sp t : Nat} {T : Hp} {es es' : Es} {sf : SF} {rows : List Rn} {sta : Int} {loc : Loc}
include ok hG
theorem pub_tail (X : St4 T s lr sp sf sta rows es) (sz : rows.length < 50) (h1 : lk loc 1735222900 = some (.ref s)) (hn : 1 ≤ T.n) : StP c (d + 9) loc T pbS (fun l T' => l = loc ∧ ∃ lr' sp' sta' rows', St4 T' s lr' sp' sf sta' rows' es ∧ ((lr' = lr ∧ sta' = sta ∧ rows' = rows ∧ (rows.length : Int) ≤ sf.keep) ∨ (T.n ≤ lr' ∧ rows' = [] ∧ sta' = sf.rev)) ∧ Upd T.n (But sf.log) T T') (fun _ _ => False) := by
 have hs := X.hs
 have hl := X.hl
 have sz' : (rows.map Rn.rf).length < 4000 := by rw [List.length_map]; exact Nat.lt_trans sz (lb rfl)
 by_cases hk : sf.keep < (rows.length : Int)
 ·have le := X.rle
  have sl := X.sle
  rw [← X.lst] at le sl
  obtain ⟨v2, T2, h2, lr', sp', q1, q2, q3, u2⟩ := compact_ok ok hG (d := d) hs X.ps hl X.pg X.hr X.rn sz sl le X.tr hn
  apply S_if
  apply T_andP
  apply Ts_goP
  apply T_cmpP
  apply E_la ok
  exact (by with_reducible repeat' first|assumption|exact lk_same|apply lk_else|apply lk_drop|with_unfolding_all rfl)
  ·(with_reducible repeat' first|assumption|exact get_new _ _|apply get_put|apply get_old|refine get_nf (by assumption) ?_|apply get_kd|with_unfolding_all rfl)
  exact tA hG rfl
  exact rfl
  apply E_none
  refine k_cm true (C_isnt1 rfl) ?_
  apply k_ye
  apply Ts_goP
  apply T_cmpP
  refine E_callB ok (tG hG rfl) (by first | exact .inl ⟨_, rfl⟩ | exact .inr ⟨_, rfl⟩) ?_
  apply Es_cons
  apply E_attr ok
  apply E_la ok
  exact (by with_reducible repeat' first|assumption|exact lk_same|apply lk_else|apply lk_drop|with_unfolding_all rfl)
  ·(with_reducible repeat' first|assumption|exact get_new _ _|apply get_put|apply get_old|refine get_nf (by assumption) ?_|apply get_kd|with_unfolding_all rfl)
  exact tA hG rfl
  exact rfl
  apply k_at2
  ·(with_reducible repeat' first|assumption|exact get_new _ _|apply get_put|apply get_old|refine get_nf (by assumption) ?_|apply get_kd|with_unfolding_all rfl)
  exact tA hG rfl
  exact rfl
  apply Es_nil
  refine k_bc (B_lenL X.hr sz') ?_
  apply E_la ok
  exact (by with_reducible repeat' first|assumption|exact lk_same|apply lk_else|apply lk_drop|with_unfolding_all rfl)
  ·(with_reducible repeat' first|assumption|exact get_new _ _|apply get_put|apply get_old|refine get_nf (by assumption) ?_|apply get_kd|with_unfolding_all rfl)
  exact tA hG rfl
  exact rfl
  refine k_cm true (cmt C_gt (decide_eq_true (by rw [List.length_map]; exact hk))) ?_
  apply k_ye
  apply Ts_nilP
  apply X_consP
  apply S_expr
  apply E_lm ok
  exact (by with_reducible repeat' first|assumption|exact lk_same|apply lk_else|apply lk_drop|with_unfolding_all rfl)
  ·(with_reducible repeat' first|assumption|exact get_new _ _|apply get_put|apply get_old|refine get_nf (by assumption) ?_|apply get_kd|with_unfolding_all rfl)
  exact tM hG rfl
  exact rfl
  apply Es_nil
  refine k_ca (h2) ?_
  apply X_nilP
  refine ⟨rfl, lr', sp', lastR sta rows, [], ⟨u2.get (ne_kd hl hs rfl) hs, X.ps, q1, X.pg, q2, Nat.le_trans hn q3, fun y m => (by cases m), X.tr.keep u2 (fun r a g q => kd_ne hl g q rfl), X.lst, fun y m => (by cases m), by rw [X.lst]; exact Int.le_refl _⟩, .inr ⟨q3, rfl, X.lst⟩, u2⟩
 ·skip
  apply S_if
  apply T_andP
  apply Ts_goP
  apply T_cmpP
  apply E_la ok
  exact (by with_reducible repeat' first|assumption|exact lk_same|apply lk_else|apply lk_drop|with_unfolding_all rfl)
  ·(with_reducible repeat' first|assumption|exact get_new _ _|apply get_put|apply get_old|refine get_nf (by assumption) ?_|apply get_kd|with_unfolding_all rfl)
  exact tA hG rfl
  exact rfl
  apply E_none
  refine k_cm true (C_isnt1 rfl) ?_
  apply k_ye
  apply Ts_stopP
  apply T_cmpP
  refine E_callB ok (tG hG rfl) (by first | exact .inl ⟨_, rfl⟩ | exact .inr ⟨_, rfl⟩) ?_
  apply Es_cons
  apply E_attr ok
  apply E_la ok
  exact (by with_reducible repeat' first|assumption|exact lk_same|apply lk_else|apply lk_drop|with_unfolding_all rfl)
  ·(with_reducible repeat' first|assumption|exact get_new _ _|apply get_put|apply get_old|refine get_nf (by assumption) ?_|apply get_kd|with_unfolding_all rfl)
  exact tA hG rfl
  exact rfl
  apply k_at2
  ·(with_reducible repeat' first|assumption|exact get_new _ _|apply get_put|apply get_old|refine get_nf (by assumption) ?_|apply get_kd|with_unfolding_all rfl)
  exact tA hG rfl
  exact rfl
  apply Es_nil
  refine k_bc (B_lenL X.hr sz') ?_
  apply E_la ok
  exact (by with_reducible repeat' first|assumption|exact lk_same|apply lk_else|apply lk_drop|with_unfolding_all rfl)
  ·(with_reducible repeat' first|assumption|exact get_new _ _|apply get_put|apply get_old|refine get_nf (by assumption) ?_|apply get_kd|with_unfolding_all rfl)
  exact tA hG rfl
  exact rfl
  refine k_cm false (cmt C_gt (decide_eq_false (by rw [List.length_map]; exact hk))) ?_
  apply k_ye
  apply X_nilP
  exact ⟨rfl, lr, sp, sta, rows, X, .inl ⟨rfl, rfl, rfl, by omega⟩, Upd.refl⟩
theorem pub_mid {cl cr : Nat} {ch : Ch} (X : St4 T s lr sp sf sta rows es) (sz : rows.length < 49) (tr : TreeAt T 1 t es') (hc : T.get cl = some (.list [.ref cr])) (hch : ChAt T cr ch) (ne : cl ≠ lr) : ∃ T2 x, Ca c 286 [.ref sf.log, .int (sf.rev + 1), .int sf.tick, .ref cl] (d + 2) (hput (hput T s (SF.ob { sf with rev := sf.rev + 1 })) s (SF.ob { sf with tree := t, rev := sf.rev + 1 })) .none T2 ∧ x.rev = sf.rev + 1 ∧ x.ch = ch ∧ St4 T2 s lr sp { sf with tree := t, rev := sf.rev + 1 } sta (rows ++ [x]) es' ∧ Upd T.n (fun r _ => r ≠ s ∧ r ≠ lr) T T2 := by
 have hs := X.hs
 have hs1 : (hput T s (SF.ob { sf with rev := sf.rev + 1 })).get s = some (SF.ob { sf with rev := sf.rev + 1 }) := get_put hs
 have u1 : Upd T.n (But s) T (hput (hput T s (SF.ob { sf with rev := sf.rev + 1 })) s (SF.ob { sf with tree := t, rev := sf.rev + 1 })) := (Upd.refl.set (fun _ k => k rfl) hs).set (fun _ k => k rfl) hs
 have kp : ∀ {x : Nat} {vs : List AV}, T.get x = some (.tuple vs) → x ≠ s := fun g => ne_kd hs g rfl
 have hr1 := u1.get (ne_kd hs X.hr rfl) X.hr
 obtain ⟨_, T2, h2, rfl, x, e1, e2, g2, r2, u2⟩ := log_add ok hG (d := d) (rows := rows) (rev := sf.rev + 1) (tick := sf.tick) (u1.get (ne_kd hs X.hl rfl) X.hl) hr1 (fun x m => (X.rn x m).upd u1 fun _ _ g => kp g) (Nat.lt_succ_of_lt sz) (u1.get (ne_kd hs hc rfl) hc) (hch.upd u1 fun _ _ g => kp g) (by rw [X.lst]) X.pl
 have u02 : Upd T.n (fun r _ => r ≠ s ∧ r ≠ lr) T T2 := (u1.weak (Nat.le_refl _) fun _ _ p => p.1).then (u2.weak (Nat.le_refl _) fun _ _ p => p.2) u1.1
 refine ⟨T2, x, h2, e1, e2, ⟨u2.get (ne_kd hr1 (get_put hs1) rfl) (get_put hs1), X.ps, u02.get ⟨ne_kd hs X.hl rfl, ne_kd X.hr X.hl rfl⟩ X.hl, X.pg, g2, X.pl, fun y m => ?_, tr.keep u02 (fun r a g q => ⟨kd_ne hs g q rfl, kd_ne X.hr g q rfl⟩), by rw [lastR_snoc]; exact e1, fun y m => ?_, ?_⟩, u02⟩
 ·rcases List.mem_append.mp m with m | m
  ·exact (X.rn y m).upd u02 fun z vs g => ⟨ne_kd hs g rfl, ne_kd X.hr g rfl⟩
  ·cases List.mem_singleton.mp m; exact r2
 ·rcases List.mem_append.mp m with m | m
  ·exact Int.le_trans (X.rle y m) (by show sf.rev ≤ sf.rev + 1; omega)
  ·cases List.mem_singleton.mp m; rw [e1]; exact Int.le_refl _
 ·have := X.sle
  show sta ≤ sf.rev + 1
  omega
noncomputable def Cut (n lr lr' : Nat) (sf : SF) (sta sta' : Int) (rows rows' : List Rn) (ch : Ch) : Prop := ∃ x : Rn, x.rev = sf.rev + 1 ∧ x.ch = ch ∧ ((lr' = lr ∧ sta' = sta ∧ rows' = rows ++ [x] ∧ ((rows ++ [x]).length : Int) ≤ sf.keep) ∨ (n ≤ lr' ∧ rows' = [] ∧ sta' = sf.rev + 1))
theorem publish0 {cl cr : Nat} {ch : Ch} (X : St4 T s lr sp sf sta rows es) (hw : T.get sf.wat = some (.dict [] 0)) (sz : rows.length < 49) (tr : TreeAt T 1 t es') (hc : T.get cl = some (.list [.ref cr])) (hch : ChAt T cr ch) (ne : cl ≠ lr) (hn : 1 ≤ T.n) : CaP c T 566 [.ref s, .ref t, .ref cl] (d + 10) fun v T' => v = .none ∧ ∃ lr' sp' sta' rows', St4 T' s lr' sp' { sf with tree := t, rev := sf.rev + 1 } sta' rows' es' ∧ Cut T.n lr lr' sf sta sta' rows rows' ch ∧ T'.get sf.wat = some (.dict [] 0) ∧ Upd T.n (KQ lr lr) T T' := by
 obtain ⟨T2, x, h2, e1, e2, X2, u2⟩ := pub_mid ok hG (d := d + 7) X sz tr hc hch ne
 have hs := X.hs
 have hl1 : (hput (hput T s (SF.ob { sf with rev := sf.rev + 1 })) s (SF.ob { sf with tree := t, rev := sf.rev + 1 })).get sf.log = some (logOb lr sp sta) := get_kd (get_put hs) (get_kd hs X.hl rfl) rfl
 have hw2 := u2.get ⟨ne_kd hs hw rfl, ne_kd X.hr hw rfl⟩ hw
 have ps := X.ps
 have hl := X.hl
 have hs2 := X2.hs
 have X3 := X2.new (T' := hnew T2 (.list [])) Upd.refl.new
 have n2 : 1 ≤ (hnew T2 (.list [])).n := Nat.le_add_left 1 _
 refine C_funL ok (l := [(1735222900, _), (1717990261, _), (32763696029788516, _)]) (tF hG rfl) rfl fun lz hz Qz hQ => ?_
 have hz0 := hz 1735222900 _ rfl
 have hz1 := hz 1717990261 _ rfl
 have hz2 := hz 32763696029788516 _ rfl
 clear hz
 apply X_consP
 apply S_asg
 apply E_la ok
 exact (by with_reducible repeat' first|assumption|exact lk_same|apply lk_else|apply lk_drop|with_unfolding_all rfl)
 ·(with_reducible repeat' first|assumption|exact get_new _ _|apply get_put|apply get_old|refine get_nf (by assumption) ?_|apply get_kd|with_unfolding_all rfl)
 exact tA hG rfl
 exact rfl
 apply X_consP
 apply S_asgL ok
 apply E_bin
 apply E_la ok
 exact (by with_reducible repeat' first|assumption|exact lk_same|apply lk_else|apply lk_drop|with_unfolding_all rfl)
 ·(with_reducible repeat' first|assumption|exact get_new _ _|apply get_put|apply get_old|refine get_nf (by assumption) ?_|apply get_kd|with_unfolding_all rfl)
 exact tA hG rfl
 exact rfl
 apply E_int
 refine k_bi (B_addI) ?_
 apply k_al
 exact (by with_reducible repeat' first|assumption|exact lk_same|apply lk_else|apply lk_drop|with_unfolding_all rfl)
 ·(with_reducible repeat' first|assumption|exact get_new _ _|apply get_put|apply get_old|refine get_nf (by assumption) ?_|apply get_kd|with_unfolding_all rfl)
 exact tA hG rfl
 exact lb rfl
 first | assumption | exact Nat.le_add_left 1 _ | exact lb rfl
 apply X_consP
 apply S_asgL ok
 refine E_loc (by with_reducible repeat' first|assumption|exact lk_same|apply lk_else|apply lk_drop|with_unfolding_all rfl) ?_
 apply k_al
 exact (by with_reducible repeat' first|assumption|exact lk_same|apply lk_else|apply lk_drop|with_unfolding_all rfl)
 ·(with_reducible repeat' first|assumption|exact get_new _ _|apply get_put|apply get_old|refine get_nf (by assumption) ?_|apply get_kd|with_unfolding_all rfl)
 exact tA hG rfl
 exact lb rfl
 first | assumption | exact Nat.le_add_left 1 _ | exact lb rfl
 apply X_consP
 apply S_expr
 apply E_meth ok
 apply E_la ok
 exact (by with_reducible repeat' first|assumption|exact lk_same|apply lk_else|apply lk_drop|with_unfolding_all rfl)
 ·(with_reducible repeat' first|assumption|exact get_new _ _|apply get_put|apply get_old|refine get_nf (by assumption) ?_|apply get_kd|with_unfolding_all rfl)
 exact tA hG rfl
 exact rfl
 apply k_mt2
 ·(with_reducible repeat' first|assumption|exact get_new _ _|apply get_put|apply get_old|refine get_nf (by assumption) ?_|apply get_kd|with_unfolding_all rfl)
 exact tM hG rfl
 exact rfl
 apply Es_cons
 apply E_la ok
 exact (by with_reducible repeat' first|assumption|exact lk_same|apply lk_else|apply lk_drop|with_unfolding_all rfl)
 ·(with_reducible repeat' first|assumption|exact get_new _ _|apply get_put|apply get_old|refine get_nf (by assumption) ?_|apply get_kd|with_unfolding_all rfl)
 exact tA hG rfl
 exact rfl
 apply Es_cons
 apply E_la ok
 exact (by with_reducible repeat' first|assumption|exact lk_same|apply lk_else|apply lk_drop|with_unfolding_all rfl)
 ·(with_reducible repeat' first|assumption|exact get_new _ _|apply get_put|apply get_old|refine get_nf (by assumption) ?_|apply get_kd|with_unfolding_all rfl)
 exact tA hG rfl
 exact rfl
 refine Es_loc (by with_reducible repeat' first|assumption|exact lk_same|apply lk_else|apply lk_drop|with_unfolding_all rfl) ?_
 apply Es_nil
 refine k_ca (h2) ?_
 apply X_consP
 apply S_for
 refine E_callB ok (tG hG rfl) (by first | exact .inl ⟨_, rfl⟩ | exact .inr ⟨_, rfl⟩) ?_
 apply Es_cons
 apply E_la ok
 exact (by with_reducible repeat' first|assumption|exact lk_same|apply lk_else|apply lk_drop|with_unfolding_all rfl)
 ·(with_reducible repeat' first|assumption|exact get_new _ _|apply get_put|apply get_old|refine get_nf (by assumption) ?_|apply get_kd|with_unfolding_all rfl)
 exact tA hG rfl
 exact rfl
 apply Es_nil
 refine k_bc (B_sortS (l := []) (m := []) (Its_dict hw2 (lb rfl)) (lb rfl) (List.Perm.refl _) List.Pairwise.nil) ?_
 refine k_ik (ikL (get_new _ _)) ?_
 refine L_endP (turnL (get_new _ _) rfl) ?_
 apply X_consP
 refine StP.imp (pub_tail ok hG (d := d) X3 (by rw [List.length_append]; exact Nat.succ_lt_succ sz) (by with_reducible repeat' first|assumption|exact lk_same|apply lk_else|apply lk_drop|with_unfolding_all rfl) n2) (fun lx Tx hx9 => ?_) (fun _ _ f => f.elim)
 obtain ⟨rfl, lr', sp', sta', rows', X4, h4, u4⟩ := hx9
 apply X_nilP
 apply hQ
 refine ⟨rfl, lr', sp', sta', rows', X4, ⟨x, e1, e2, h4.imp (fun q => q) fun q => ⟨Nat.le_trans (Nat.le_trans u2.1 (Nat.le_succ _)) q.1, q.2⟩⟩, u4.get (ne_kd X3.hl (get_old hw2) rfl) (get_old hw2), ?_⟩
 have v2 : Upd T.n (KQ lr lr) T T2 := ⟨u2.1, fun r a lt k g => u2.2 r a lt ⟨fun e => (by subst e; rw [hs] at g; cases g; have := k.2.2; cases this), k.1⟩ g⟩
 exact v2.new.then (KQ.of u4 X3.hl rfl) (Nat.le_trans u2.1 (Nat.le_succ _))
end
structure W1 (T : Hp) (wt w : Nat) (n ses last : Int) (ev : Nat) (ws : List Ew) : Prop where
 hd : T.get wt = some (.dict [(.int n, .ref w)] 1)
 hw : T.get w = some (wtOb n ses last ev)
 pw : 1 ≤ w
 he : EvAt T ev ws
 pe : 1 ≤ ev
theorem W1.upd {T T' : Hp} {P : Nat → AO → Prop} {wt w ev : Nat} {n ses last : Int} {ws : List Ew} (W : W1 T wt w n ses last ev ws) (u : Upd T.n P T T') (h1 : P wt (.dict [(.int n, .ref w)] 1)) (h2 : P w (wtOb n ses last ev)) (h3 : P ev (.list (ws.map Ew.rf))) (h4 : ∀ x vs, T.get x = some (.tuple vs) → P x (.tuple vs)) : W1 T' wt w n ses last ev ws := ⟨u.get h1 W.hd, u.get h2 W.hw, W.pw, W.he.upd u h3 h4, W.pe⟩
theorem SesAt.upd {T T' : Hp} {P : Nat → AO → Prop} {sd ep : Nat} {ss : List Sn} (se : SesAt T sd ep ss) (u : Upd T.n P T T') (h1 : ∀ es ep, T.get sd = some (.dict es ep) → P sd (.dict es ep)) (h2 : ∀ (x : Sn) h, T.get x.r = some (x.ob h) → P x.r (x.ob h)) : SesAt T' sd ep ss := ⟨u.get (h1 _ _ se.hd) se.hd, fun y m => ⟨(se.he y m).1, let ⟨h, g⟩ := (se.he y m).2; ⟨h, u.get (h2 _ _ g) g⟩⟩, se.nd⟩
theorem SesAt.but {T T' : Hp} {sd ep : Nat} {ss : List Sn} {x : Sn} {h h' : Int} (se : SesAt T sd ep ss) (gx : T.get x.r = some (x.ob h)) (gx' : T'.get x.r = some (x.ob h')) (u : Upd T.n (But x.r) T T') : SesAt T' sd ep ss := by
 refine ⟨u.get (ne_kd gx se.hd rfl) se.hd, fun y m => ⟨(se.he y m).1, ?_⟩, se.nd⟩
 obtain ⟨h9, g⟩ := (se.he y m).2
 by_cases e : y.r = x.r
 ·refine ⟨h', ?_⟩
  rw [e] at g ⊢
  rw [gx] at g
  cases y; cases x
  cases g
  exact gx'
 ·exact ⟨h9, u.get e g⟩
theorem St4.but {T T' : Hp} {s lr sp : Nat} {sf : SF} {sta : Int} {rows : List Rn} {es : Es} {x : Sn} {h : Int} (X : St4 T s lr sp sf sta rows es) (gx : T.get x.r = some (x.ob h)) (u : Upd T.n (But x.r) T T') : St4 T' s lr sp sf sta rows es := X.upd u fun r a g q => by
 rcases q with rfl | rfl | rfl | q | q
 ·exact ne_kd gx X.hs rfl
 ·exact ne_kd gx X.hl rfl
 ·exact ne_kd gx X.hr rfl
 ·exact ne_kd gx g (by rw [Nat.eq_of_beq_eq_true q]; rfl)
 ·exact kd_ne gx g q rfl
noncomputable def KX (lr ev xr : Nat) : Nat → AO → Prop := fun r a => r ≠ xr ∧ KQ lr ev r a
section
variable {c : Cx} (ok : Ok c) (hG : c.G = G) {d s lr sp t : Nat} {T : Hp} {es es' : Es} {sf : SF} {rows : List Rn} {sta : Int} {loc : Loc} {x : Sn} {ss : List Sn} {ep : Nat}
include ok hG
theorem publish1 {cl cr w ev : Nat} {ch : Ch} {n last : Int} {ws : List Ew} {e : En} (X : St4 T s lr sp sf sta rows es) (W : W1 T sf.wat w n x.num last ev ws) (nev : ev ≠ lr) (se : SesAt T sf.ses ep ss) (mx : x ∈ ss) (hu : x.u ≠ [42]) (sz : rows.length < 49) (szw : ws.length < 15) (hlt : last ≤ sf.rev) (tr : TreeAt T 1 t es') (m : (pa, e) ∈ es') (rc : Rch es' pa) (hc : T.get cl = some (.list [.ref cr])) (hch : ChAt T cr ch) (hpa : chP ch = pa) (ne : cl ≠ lr) (ne2 : cl ≠ ev) (hn : 1 ≤ T.n) : CaP c T 566 [.ref s, .ref t, .ref cl] (d + 10) fun v T' => v = .none ∧ ∃ lr' sp' sta' rows', St4 T' s lr' sp' { sf with tree := t, rev := sf.rev + 1 } sta' rows' es' ∧ Cut T.n lr lr' sf sta sta' rows rows' ch ∧ (∃ y : Ew, y.q = (sf.rev + 1, chW ch) ∧ W1 T' sf.wat w n x.num (sf.rev + 1) ev (ws ++ [y])) ∧ Upd T.n (KQ lr ev) T T' := by
 obtain ⟨T2, x2, h2, e1, e2, X2, u2⟩ := pub_mid ok hG (d := d + 7) X sz tr hc hch ne
 have hs := X.hs
 have ps := X.ps
 have hl := X.hl
 have hs2 := X2.hs
 have W2 := W.upd u2 ⟨ne_kd hs W.hd rfl, ne_kd X.hr W.hd rfl⟩ ⟨ne_kd hs W.hw rfl, ne_kd X.hr W.hw rfl⟩ ⟨ne_kd hs W.he.h rfl, nev⟩ fun y vs g => ⟨ne_kd hs g rfl, ne_kd X.hr g rfl⟩
 have se2 := se.upd u2 (fun _ _ g => ⟨ne_kd hs g rfl, ne_kd X.hr g rfl⟩) fun _ _ g => ⟨ne_kd hs g rfl, ne_kd X.hr g rfl⟩
 have hc2 := u2.get ⟨ne_kd hs hc rfl, ne⟩ hc
 have hch2 := hch.upd u2 fun y vs g => ⟨ne_kd hs g rfl, ne_kd X.hr g rfl⟩
 obtain ⟨z, hz⟩ := hch2.two
 rw [hpa] at hz
 have un : Upd T2.n All T2 (hnew T2 (.list [.int n])) := Upd.refl.new
 have n3 : 1 ≤ (hnew T2 (.list [.int n])).n := Nat.le_add_left 1 _
 obtain ⟨_, T4, h4, r4, rfl, g4, l4, u4⟩ := seen_ok ok hG (d := d + 3) (T := hnew T2 (.list [.int n])) (bf := sf.tree) (un.get trivial hs2) (se2.upd un (fun _ _ _ => trivial) fun _ _ _ => trivial) mx (un.get trivial W2.hw) (un.get trivial hz) (.inl (un.get trivial hc2)) (X2.tr.all un) m rc hu n3
 have u24 : Upd T2.n All T2 T4 := un.then u4 (Nat.le_succ _)
 have W4 := W2.upd u24 trivial trivial trivial fun _ _ _ => trivial
 have lev : ev < T2.n := lt_of_get W2.he.h
 obtain ⟨_, T5, h5, rfl, y, ey, gw5, ev5, u5⟩ := see_ok ok hG (d := d + 7) (rev := sf.rev + 1) W4.hw W4.pw (u24.get trivial hz) g4 W4.he W4.pe (Nat.ne_of_gt (Nat.lt_of_lt_of_le (Nat.lt_succ_of_lt lev) l4)) (by omega) szw
 have g3 : (hnew T2 (.list [.int n])).get T2.n = some (.list [.int n]) := get_new _ _
 have g34 := u4.get trivial g3
 have g35 : T5.get T2.n = some (.list [.int n]) := u5.get ⟨ne_kd W4.hw g34 rfl, Nat.ne_of_gt lev⟩ g34
 have X4 := X2.new u24
 have X5 : St4 T5 s lr sp { sf with tree := t, rev := sf.rev + 1 } sta (rows ++ [x2]) es' := X4.upd u5 fun r a g q => by
  rcases q with rfl | rfl | rfl | q | q
  ·exact ⟨ne_kd W4.hw X4.hs rfl, ne_kd W4.he.h X4.hs rfl⟩
  ·exact ⟨ne_kd W4.hw X4.hl rfl, ne_kd W4.he.h X4.hl rfl⟩
  ·exact ⟨ne_kd W4.hw X4.hr rfl, Ne.symm nev⟩
  ·exact ⟨ne_kd W4.hw g (by rw [Nat.eq_of_beq_eq_true q]; rfl), ne_kd W4.he.h g (by rw [Nat.eq_of_beq_eq_true q]; rfl)⟩
  ·exact ⟨kd_ne W4.hw g q rfl, kd_ne W4.he.h g q rfl⟩
 have wt5 : T5.get sf.wat = some (.dict [(.int n, .ref w)] 1) := u5.get ⟨ne_kd W4.hw W4.hd rfl, ne_kd W4.he.h W4.hd rfl⟩ W4.hd
 have hw3 := un.get trivial W2.hw
 have hw2 := W2.hw
 have hw4 := W4.hw
 have hs4 := X4.hs
 have n5 : 1 ≤ T5.n := Nat.le_trans hn (Nat.le_trans u2.1 (Nat.le_trans u24.1 u5.1))
 refine C_funL ok (l := [(1735222900, _), (1717990261, _), (32763696029788516, _)]) (tF hG rfl) rfl fun lz hz Qz hQ => ?_
 have hz0 := hz 1735222900 _ rfl
 have hz1 := hz 1717990261 _ rfl
 have hz2 := hz 32763696029788516 _ rfl
 clear hz
 apply X_consP
 apply S_asg
 apply E_la ok
 exact (by with_reducible repeat' first|assumption|exact lk_same|apply lk_else|apply lk_drop|with_unfolding_all rfl)
 ·(with_reducible repeat' first|assumption|exact get_new _ _|apply get_put|apply get_old|refine get_nf (by assumption) ?_|apply get_kd|with_unfolding_all rfl)
 exact tA hG rfl
 exact rfl
 apply X_consP
 apply S_asgL ok
 apply E_bin
 apply E_la ok
 exact (by with_reducible repeat' first|assumption|exact lk_same|apply lk_else|apply lk_drop|with_unfolding_all rfl)
 ·(with_reducible repeat' first|assumption|exact get_new _ _|apply get_put|apply get_old|refine get_nf (by assumption) ?_|apply get_kd|with_unfolding_all rfl)
 exact tA hG rfl
 exact rfl
 apply E_int
 refine k_bi (B_addI) ?_
 apply k_al
 exact (by with_reducible repeat' first|assumption|exact lk_same|apply lk_else|apply lk_drop|with_unfolding_all rfl)
 ·(with_reducible repeat' first|assumption|exact get_new _ _|apply get_put|apply get_old|refine get_nf (by assumption) ?_|apply get_kd|with_unfolding_all rfl)
 exact tA hG rfl
 exact lb rfl
 first | assumption | exact Nat.le_add_left 1 _ | exact lb rfl
 apply X_consP
 apply S_asgL ok
 refine E_loc (by with_reducible repeat' first|assumption|exact lk_same|apply lk_else|apply lk_drop|with_unfolding_all rfl) ?_
 apply k_al
 exact (by with_reducible repeat' first|assumption|exact lk_same|apply lk_else|apply lk_drop|with_unfolding_all rfl)
 ·(with_reducible repeat' first|assumption|exact get_new _ _|apply get_put|apply get_old|refine get_nf (by assumption) ?_|apply get_kd|with_unfolding_all rfl)
 exact tA hG rfl
 exact lb rfl
 first | assumption | exact Nat.le_add_left 1 _ | exact lb rfl
 apply X_consP
 apply S_expr
 apply E_meth ok
 apply E_la ok
 exact (by with_reducible repeat' first|assumption|exact lk_same|apply lk_else|apply lk_drop|with_unfolding_all rfl)
 ·(with_reducible repeat' first|assumption|exact get_new _ _|apply get_put|apply get_old|refine get_nf (by assumption) ?_|apply get_kd|with_unfolding_all rfl)
 exact tA hG rfl
 exact rfl
 apply k_mt2
 ·(with_reducible repeat' first|assumption|exact get_new _ _|apply get_put|apply get_old|refine get_nf (by assumption) ?_|apply get_kd|with_unfolding_all rfl)
 exact tM hG rfl
 exact rfl
 apply Es_cons
 apply E_la ok
 exact (by with_reducible repeat' first|assumption|exact lk_same|apply lk_else|apply lk_drop|with_unfolding_all rfl)
 ·(with_reducible repeat' first|assumption|exact get_new _ _|apply get_put|apply get_old|refine get_nf (by assumption) ?_|apply get_kd|with_unfolding_all rfl)
 exact tA hG rfl
 exact rfl
 apply Es_cons
 apply E_la ok
 exact (by with_reducible repeat' first|assumption|exact lk_same|apply lk_else|apply lk_drop|with_unfolding_all rfl)
 ·(with_reducible repeat' first|assumption|exact get_new _ _|apply get_put|apply get_old|refine get_nf (by assumption) ?_|apply get_kd|with_unfolding_all rfl)
 exact tA hG rfl
 exact rfl
 refine Es_loc (by with_reducible repeat' first|assumption|exact lk_same|apply lk_else|apply lk_drop|with_unfolding_all rfl) ?_
 apply Es_nil
 refine k_ca (h2) ?_
 apply X_consP
 apply S_for
 refine E_callB ok (tG hG rfl) (by first | exact .inl ⟨_, rfl⟩ | exact .inr ⟨_, rfl⟩) ?_
 apply Es_cons
 apply E_la ok
 exact (by with_reducible repeat' first|assumption|exact lk_same|apply lk_else|apply lk_drop|with_unfolding_all rfl)
 ·(with_reducible repeat' first|assumption|exact get_new _ _|apply get_put|apply get_old|refine get_nf (by assumption) ?_|apply get_kd|with_unfolding_all rfl)
 exact tA hG rfl
 exact rfl
 apply Es_nil
 refine k_bc (B_sortI (l := [n]) (m := [n]) (Its_dict W2.hd (lb rfl)) (lb rfl) (List.Perm.refl _) (.cons (fun _ h => (by cases h)) .nil)) ?_
 refine k_ik (ikL (get_new _ _)) ?_
 refine L_nextP (turnL (get_new _ _) rfl) (bind_one) ?_
 apply X_consP
 apply S_asg
 apply E_sub
 apply E_la ok
 exact (by with_reducible repeat' first|assumption|exact lk_same|apply lk_else|apply lk_drop|with_unfolding_all rfl)
 ·(with_reducible repeat' first|assumption|exact get_new _ _|apply get_put|apply get_old|refine get_nf (by assumption) ?_|apply get_kd|with_unfolding_all rfl)
 exact tA hG rfl
 exact rfl
 refine E_loc (by with_reducible repeat' first|assumption|exact lk_same|apply lk_else|apply lk_drop|with_unfolding_all rfl) ?_
 refine k_it (I_dict (un.get trivial W2.hd) rfl (if_pos (decide_eq_true rfl))) ?_
 apply X_consP
 apply S_expr
 apply E_lm ok
 exact (by with_reducible repeat' first|assumption|exact lk_same|apply lk_else|apply lk_drop|with_unfolding_all rfl)
 ·(with_reducible repeat' first|assumption|exact get_new _ _|apply get_put|apply get_old|refine get_nf (by assumption) ?_|apply get_kd|with_unfolding_all rfl)
 exact tM hG rfl
 exact rfl
 apply Es_cons
 apply E_la ok
 exact (by with_reducible repeat' first|assumption|exact lk_same|apply lk_else|apply lk_drop|with_unfolding_all rfl)
 ·(with_reducible repeat' first|assumption|exact get_new _ _|apply get_put|apply get_old|refine get_nf (by assumption) ?_|apply get_kd|with_unfolding_all rfl)
 exact tA hG rfl
 exact rfl
 apply Es_cons
 apply E_lm ok
 exact (by with_reducible repeat' first|assumption|exact lk_same|apply lk_else|apply lk_drop|with_unfolding_all rfl)
 ·(with_reducible repeat' first|assumption|exact get_new _ _|apply get_put|apply get_old|refine get_nf (by assumption) ?_|apply get_kd|with_unfolding_all rfl)
 exact tM hG rfl
 exact rfl
 refine Es_loc (by with_reducible repeat' first|assumption|exact lk_same|apply lk_else|apply lk_drop|with_unfolding_all rfl) ?_
 refine Es_loc (by with_reducible repeat' first|assumption|exact lk_same|apply lk_else|apply lk_drop|with_unfolding_all rfl) ?_
 refine Es_loc (by with_reducible repeat' first|assumption|exact lk_same|apply lk_else|apply lk_drop|with_unfolding_all rfl) ?_
 apply Es_nil
 refine k_ca (h4) ?_
 apply Es_nil
 refine k_ca (h5) ?_
 apply X_nilP
 refine L_endP (turnL g35 rfl) ?_
 apply X_consP
 refine StP.imp (pub_tail ok hG (d := d) X5 (by rw [List.length_append]; exact Nat.succ_lt_succ sz) (by with_reducible repeat' first|assumption|exact lk_same|apply lk_else|apply lk_drop|with_unfolding_all rfl) n5) (fun lx Tx hx9 => ?_) (fun _ _ f => f.elim)
 obtain ⟨rfl, lr', sp', sta', rows', X6, h6, u6⟩ := hx9
 apply X_nilP
 apply hQ
 have u25 : T2.n ≤ T5.n := Nat.le_trans u24.1 u5.1
 have W5 : W1 T5 sf.wat w n x.num (sf.rev + 1) ev (ws ++ [y]) := ⟨wt5, gw5, W.pw, ev5, W.pe⟩
 refine ⟨rfl, lr', sp', sta', rows', X6, ⟨x2, e1, e2, h6.imp (fun q => q) fun q => ⟨Nat.le_trans (Nat.le_trans u2.1 u25) q.1, q.2⟩⟩, ⟨y, ey, W5.upd u6 (ne_kd X5.hl W5.hd rfl) (ne_kd X5.hl W5.hw rfl) (ne_kd X5.hl W5.he.h rfl) fun _ _ g => ne_kd X5.hl g rfl⟩, ?_⟩
 have v2 : Upd T.n (KQ lr ev) T T2 := ⟨u2.1, fun r a lt k g => u2.2 r a lt ⟨fun e => (by subst e; rw [hs] at g; cases g; have := k.2.2; cases this), k.1⟩ g⟩
 have v5 : Upd T4.n (KQ lr ev) T4 T5 := ⟨u5.1, fun r a lt k g => u5.2 r a lt ⟨fun e => (by subst e; rw [hw4] at g; cases g; have := k.2.2; cases this), k.2.1⟩ g⟩
 exact ((v2.then u24.a u2.1).then v5 (Nat.le_trans u2.1 u24.1)).then (KQ.of u6 X5.hl rfl) (Nat.le_trans u2.1 u25)
theorem aloneG {so : Nat} {wd p : List Nat} {tl : List AV} {ans : AV} {ch : Ch} {K : Hp → Hp → Prop} (X : St4 T s lr sp sf sta rows es) (se : SesAt T sf.ses ep ss) (mx : x ∈ ss) (hstp : StepS c (d + 9) s x.num x.u sf es (.str wd :: .str p :: tl) ans ch) (hwd : stepsT.any (sq · (.str wd)) = true) (htl : tl.length ≤ 8) (hst : T.get so = some (.tuple (.str wd :: .str p :: tl))) (hn : 1 ≤ T.n)
  (hp : ∀ T1 t cl al cr h, T.get x.r = some (x.ob h) → Upd T.n (But x.r) T T1 → St4 T1 s lr sp sf sta rows es → SesAt T1 sf.ses ep ss → TreeAt T1 1 t (appE (sf.rev + 1) es ch) → T1.get cl = some (.list [.ref cr]) → ChAt T1 cr ch → T1.get al = some (.list [ans]) → T.n < cl → T.n < al → 1 ≤ T1.n → CaP c T1 566 [.ref s, .ref t, .ref cl] (d + 10) fun v T' => v = .none ∧ T'.get al = some (.list [ans]) ∧ K T1 T') :
  CaP c T 632 [.ref s, .int x.num, .ref so] (d + 11) fun v T' => v = ans ∧ ∃ T1, Upd T.n (But x.r) T T1 ∧ K T1 T' := by
 obtain ⟨_, T1, h1, rt, t, cl, al, cr, rfl, g1, tr1, gc, hcr, ga, u1, la, lc, gx1⟩ := steps_ok ok hG (d := d + 1) (T := hnew T (.list [.ref so])) (sl := T.n) (get_old X.hs) (se.upd (T' := hnew T (.list [.ref so])) (P := All) Upd.refl.new (fun _ _ _ => trivial) fun _ _ _ => trivial) mx (X.tr.all Upd.refl.new) hstp hwd htl (get_old hst) (get_new _ _) (Nat.le_succ_of_le hn)
 obtain ⟨px, hh, gx⟩ := se.he x mx
 have u01 : Upd T.n (But x.r) T T1 := Upd.refl.new.then u1 (Nat.le_succ _)
 have X1 := X.but gx u01
 have hs1 := X1.hs
 obtain ⟨_, T2, h2, rfl, ga2, k2⟩ := hp T1 t cl al cr hh gx u01 X1 (se.but gx gx1 u01) (tr1.weak (Nat.le_succ_of_le hn)) gc hcr ga lc la (Nat.le_trans hn u01.1)
 have hs := X.hs
 refine C_funL ok (l := [(1735222900, _), (126883592042095, _), (1902540148, _)]) (tF hG rfl) rfl fun lz hz Qz hQ => ?_
 have hz0 := hz 1735222900 _ rfl
 have hz1 := hz 126883592042095 _ rfl
 have hz2 := hz 1902540148 _ rfl
 clear hz
 apply X_consP
 apply S_asgT
 apply E_lm ok
 exact (by with_reducible repeat' first|assumption|exact lk_same|apply lk_else|apply lk_drop|with_unfolding_all rfl)
 ·(with_reducible repeat' first|assumption|exact get_new _ _|apply get_put|apply get_old|refine get_nf (by assumption) ?_|apply get_kd|with_unfolding_all rfl)
 exact tM hG rfl
 exact rfl
 refine Es_loc (by with_reducible repeat' first|assumption|exact lk_same|apply lk_else|apply lk_drop|with_unfolding_all rfl) ?_
 apply Es_cons
 apply E_list
 refine Es_loc (by with_reducible repeat' first|assumption|exact lk_same|apply lk_else|apply lk_drop|with_unfolding_all rfl) ?_
 apply Es_nil
 refine k_sh (lb rfl) ?_
 apply Es_cons
 apply E_bool
 apply Es_nil
 refine k_ca (h1) ?_
 refine k_tu (.inl g1) rfl ?_
 apply X_consP
 apply S_expr
 apply E_lm ok
 exact (by with_reducible repeat' first|assumption|exact lk_same|apply lk_else|apply lk_drop|with_unfolding_all rfl)
 ·(with_reducible repeat' first|assumption|exact get_new _ _|apply get_put|apply get_old|refine get_nf (by assumption) ?_|apply get_kd|with_unfolding_all rfl)
 exact tM hG rfl
 exact rfl
 refine Es_loc (by with_reducible repeat' first|assumption|exact lk_same|apply lk_else|apply lk_drop|with_unfolding_all rfl) ?_
 refine Es_loc (by with_reducible repeat' first|assumption|exact lk_same|apply lk_else|apply lk_drop|with_unfolding_all rfl) ?_
 apply Es_nil
 refine k_ca (h2) ?_
 apply X_consP
 apply S_ret
 apply E_sub
 refine E_loc (by with_reducible repeat' first|assumption|exact lk_same|apply lk_else|apply lk_drop|with_unfolding_all rfl) ?_
 apply E_int
 refine k_it (I_list (j := 0) ga2 rfl (lb rfl)) ?_
 apply hQ
 exact ⟨rfl, T1, u01, k2⟩
theorem alone0 {so : Nat} {wd p : List Nat} {tl : List AV} {ans : AV} {ch : Ch} (X : St4 T s lr sp sf sta rows es) (hw : T.get sf.wat = some (.dict [] 0)) (sz : rows.length < 49) (se : SesAt T sf.ses ep ss) (mx : x ∈ ss) (hstp : StepS c (d + 9) s x.num x.u sf es (.str wd :: .str p :: tl) ans ch) (hwd : stepsT.any (sq · (.str wd)) = true) (htl : tl.length ≤ 8) (hst : T.get so = some (.tuple (.str wd :: .str p :: tl))) (hn : 1 ≤ T.n) :
  CaP c T 632 [.ref s, .int x.num, .ref so] (d + 11) fun v T' => v = ans ∧ ∃ t lr' sp' sta' rows', St4 T' s lr' sp' { sf with tree := t, rev := sf.rev + 1 } sta' rows' (appE (sf.rev + 1) es ch) ∧ Cut T.n lr lr' sf sta sta' rows rows' ch ∧ T'.get sf.wat = some (.dict [] 0) ∧ SesAt T' sf.ses ep ss ∧ Upd T.n (KX lr lr x.r) T T' := by
 refine (aloneG ok hG (d := d) (K := fun T1 T' => ∃ t lr' sp' sta' rows', St4 T' s lr' sp' { sf with tree := t, rev := sf.rev + 1 } sta' rows' (appE (sf.rev + 1) es ch) ∧ Cut T1.n lr lr' sf sta sta' rows rows' ch ∧ T'.get sf.wat = some (.dict [] 0) ∧ SesAt T' sf.ses ep ss ∧ Upd T1.n (KQ lr lr) T1 T') X se mx hstp hwd htl hst hn fun T1 t cl al cr h gx u01 X1 se1 tr gc hcr ga lc la n1 => ?_).imp fun v T' hv => ?_
 ·refine (publish0 ok hG (d := d) (t := t) (cl := cl) X1 (u01.get (ne_kd gx hw rfl) hw) sz tr gc hcr (Nat.ne_of_gt (Nat.lt_trans (lt_of_get X.hr) lc)) n1).imp fun v T' hv => ?_
  obtain ⟨rfl, lr', sp', sta', rows', X2, ct, w2, u2⟩ := hv
  exact ⟨rfl, u2.get ⟨Nat.ne_of_gt (Nat.lt_trans (lt_of_get X.hr) la), Nat.ne_of_gt (Nat.lt_trans (lt_of_get X.hr) la), rfl⟩ ga, t, lr', sp', sta', rows', X2, ct, w2, se1.upd u2 (fun _ _ g => ⟨ne_kd X1.hr g rfl, ne_kd X1.hr g rfl, rfl⟩) (fun _ _ g => ⟨ne_kd X1.hr g rfl, ne_kd X1.hr g rfl, rfl⟩), u2⟩
 ·obtain ⟨rfl, T1, u01, t, lr', sp', sta', rows', X2, ⟨y, y1, y2, y3⟩, w2, se2, u2⟩ := hv
  exact ⟨rfl, t, lr', sp', sta', rows', X2, ⟨y, y1, y2, y3.imp id fun q => ⟨Nat.le_trans u01.1 q.1, q.2⟩⟩, w2, se2, (u01.weak (Nat.le_refl _) fun _ _ p => p.1).then (u2.weak (Nat.le_refl _) fun _ _ p => p.2) u01.1⟩
theorem alone1 {so w ev : Nat} {wd p : List Nat} {tl : List AV} {ans : AV} {ch : Ch} {n last : Int} {ws : List Ew} {e : En} (X : St4 T s lr sp sf sta rows es) (W : W1 T sf.wat w n x.num last ev ws) (nev : ev ≠ lr) (sz : rows.length < 49) (szw : ws.length < 15) (hlt : last ≤ sf.rev) (se : SesAt T sf.ses ep ss) (mx : x ∈ ss) (hu : x.u ≠ [42]) (m : (pa, e) ∈ appE (sf.rev + 1) es ch) (rc : Rch (appE (sf.rev + 1) es ch) pa) (hpa : chP ch = pa) (hstp : StepS c (d + 9) s x.num x.u sf es (.str wd :: .str p :: tl) ans ch) (hwd : stepsT.any (sq · (.str wd)) = true) (htl : tl.length ≤ 8) (hst : T.get so = some (.tuple (.str wd :: .str p :: tl))) (hn : 1 ≤ T.n) :
  CaP c T 632 [.ref s, .int x.num, .ref so] (d + 11) fun v T' => v = ans ∧ ∃ t lr' sp' sta' rows', St4 T' s lr' sp' { sf with tree := t, rev := sf.rev + 1 } sta' rows' (appE (sf.rev + 1) es ch) ∧ Cut T.n lr lr' sf sta sta' rows rows' ch ∧ (∃ y : Ew, y.q = (sf.rev + 1, chW ch) ∧ W1 T' sf.wat w n x.num (sf.rev + 1) ev (ws ++ [y])) ∧ SesAt T' sf.ses ep ss ∧ Upd T.n (KX lr ev x.r) T T' := by
 refine (aloneG ok hG (d := d) (K := fun T1 T' => ∃ t lr' sp' sta' rows', St4 T' s lr' sp' { sf with tree := t, rev := sf.rev + 1 } sta' rows' (appE (sf.rev + 1) es ch) ∧ Cut T1.n lr lr' sf sta sta' rows rows' ch ∧ (∃ y : Ew, y.q = (sf.rev + 1, chW ch) ∧ W1 T' sf.wat w n x.num (sf.rev + 1) ev (ws ++ [y])) ∧ SesAt T' sf.ses ep ss ∧ Upd T1.n (KQ lr ev) T1 T') X se mx hstp hwd htl hst hn fun T1 t cl al cr h gx u01 X1 se1 tr gc hcr ga lc la n1 => ?_).imp fun v T' hv => ?_
 ·have W1' := W.upd u01 (ne_kd gx W.hd rfl) (ne_kd gx W.hw rfl) (ne_kd gx W.he.h rfl) fun _ _ g => ne_kd gx g rfl
  refine (publish1 ok hG (d := d) (t := t) (cl := cl) X1 W1' nev se1 mx hu sz szw hlt tr m rc gc hcr hpa (Nat.ne_of_gt (Nat.lt_trans (lt_of_get X.hr) lc)) (Nat.ne_of_gt (Nat.lt_trans (lt_of_get W.he.h) lc)) n1).imp fun v T' hv => ?_
  obtain ⟨rfl, lr', sp', sta', rows', X2, ct, w2, u2⟩ := hv
  exact ⟨rfl, u2.get ⟨Nat.ne_of_gt (Nat.lt_trans (lt_of_get X.hr) la), Nat.ne_of_gt (Nat.lt_trans (lt_of_get W.he.h) la), rfl⟩ ga, t, lr', sp', sta', rows', X2, ct, w2, se1.upd u2 (fun _ _ g => ⟨ne_kd X1.hr g rfl, ne_kd W1'.he.h g rfl, rfl⟩) (fun _ _ g => ⟨ne_kd X1.hr g rfl, ne_kd W1'.he.h g rfl, rfl⟩), u2⟩
 ·obtain ⟨rfl, T1, u01, t, lr', sp', sta', rows', X2, ⟨y, y1, y2, y3⟩, w2, se2, u2⟩ := hv
  exact ⟨rfl, t, lr', sp', sta', rows', X2, ⟨y, y1, y2, y3.imp id fun q => ⟨Nat.le_trans u01.1 q.1, q.2⟩⟩, w2, se2, (u01.weak (Nat.le_refl _) fun _ _ p => p.1).then (u2.weak (Nat.le_refl _) fun _ _ p => p.2) u01.1⟩
end
theorem dlk_sno {n : Int} {ss : List Sn} (h : n ∉ ss.map Sn.num) : dlk (.int n) (ss.map Sn.dc) = none := by
 induction ss with
 | nil => rfl
 | cons x ss ih =>
  have e : x.num ≠ n := fun e => h (e ▸ .head _)
  show (if decide (x.num = n) = true then _ else _) = _
  rw [if_neg fun q => e (of_decide_eq_true q)]
  exact ih fun m => h (.tail _ m)
theorem dpt_ses {x : Sn} {ss : List Sn} (h : x.num ∉ ss.map Sn.num) : dpt (.int x.num) (.ref x.r) (ss.map Sn.dc) = (ss ++ [x]).map Sn.dc := by
 induction ss with
 | nil => rfl
 | cons y ss ih =>
  have e : y.num ≠ x.num := fun e => h (e ▸ .head _)
  show (if decide (y.num = x.num) = true then _ else _) = _
  rw [if_neg fun q => e (of_decide_eq_true q), ih fun m => h (.tail _ m)]; rfl
theorem TreeAt.keep2 {T T' : Hp} {lo t s sd ep : Nat} {es : Es} {ss : List Sn} {sf : SF} (h : TreeAt T lo t es) (ne : es ≠ []) (hs : T.get s = some sf.ob) (hd : T.get sd = some (.dict (ss.map Sn.dc) ep)) (u : Upd T.n (fun r _ => r ≠ s ∧ r ≠ sd) T T') : TreeAt T' lo t es := by
 obtain ⟨dr, ep2, xs, t3, rfl⟩ := h
 refine ⟨dr, ep2, xs, { t3 with ht := u.get ⟨ne_kd hs t3.ht rfl, ne_kd hd t3.ht rfl⟩ t3.ht, hd := u.get ⟨ne_kd hs t3.hd rfl, fun e => ?_⟩ t3.hd, he := fun x m => u.get ⟨ne_kd hs (t3.he x m) rfl, ne_kd hd (t3.he x m) rfl⟩ (t3.he x m) }, rfl⟩
 have := t3.hd
 rw [e, hd] at this
 cases xs with
 | nil => exact ne rfl
 | cons y ys => cases ss with
  | nil => injection this with q; injection q with q; cases q
  | cons z zs => injection this with q; injection q with q; injection q with q; injection q with q; cases q
section
variable {c : Cx} (ok : Ok c) (hG : c.G = G) {d s lr sp st : Nat} {T : Hp} {es : Es} {sf : SF} {rows : List Rn}
include ok hG
theorem ticks_ok {i : Int} (h : 1 ≤ i) : Ca c 385 [.int i] (d + 1) T (.int i) T := by
 have : CaP c T 385 [.int i] (d + 1) fun u T' => u = .int i ∧ T' = T := by
  refine C_funQ ok (l := [(500034726517, _)]) (tF hG rfl) rfl fun Qz hQ => ?_
  apply X_consP
  apply S_if
  apply T_orP
  apply Ts_goP
  apply T_cmpP
  refine E_callB ok (tG hG rfl) (by first | exact .inl ⟨_, rfl⟩ | exact .inr ⟨_, rfl⟩) ?_
  refine Es_loc rfl ?_
  apply Es_nil
  refine k_bc (by first|exact B_typeS|exact B_typeI|exact B_typeT (by (with_reducible repeat' first|assumption|exact get_new _ _|apply get_put|apply get_old|refine get_nf (by assumption) ?_|apply get_kd|with_unfolding_all rfl))) ?_
  refine E_glb ok (tG hG rfl) ?_
  refine k_cm false (by first | exact C_isnt0 | exact C_isnt1 rfl | exact C_isntT) ?_
  apply k_ye
  apply Ts_goP
  apply T_cmpP
  refine E_loc rfl ?_
  apply E_int
  refine k_cm false (cmt C_lt (decide_eq_false (Int.not_lt.mpr h))) ?_
  apply k_ye
  apply Ts_nilP
  apply X_nilP
  apply X_consP
  apply S_ret
  refine E_loc rfl ?_
  apply hQ
  exact ⟨rfl, rfl⟩
 obtain ⟨_, _, h, rfl, rfl⟩ := this
 exact h
theorem user_ok {u : List Nat} (h1 : u ≠ []) (h2 : u ≠ [42]) : Ca c 392 [.str u] (d + 1) T (.str u) (hnew T (.list [.str [], .str [42]])) := by
 have : CaP c T 392 [.str u] (d + 1) fun v T' => v = .str u ∧ T' = hnew T (.list [.str [], .str [42]]) := by
  refine C_funQ ok (l := [(1936094326, _)]) (tF hG rfl) rfl fun Qz hQ => ?_
  apply X_consP
  apply S_if
  apply T_orP
  apply Ts_goP
  apply T_cmpP
  refine E_callB ok (tG hG rfl) (by first | exact .inl ⟨_, rfl⟩ | exact .inr ⟨_, rfl⟩) ?_
  refine Es_loc rfl ?_
  apply Es_nil
  refine k_bc (by first|exact B_typeS|exact B_typeI|exact B_typeT (by (with_reducible repeat' first|assumption|exact get_new _ _|apply get_put|apply get_old|refine get_nf (by assumption) ?_|apply get_kd|with_unfolding_all rfl))) ?_
  refine E_glb ok (tG hG rfl) ?_
  refine k_cm false (by first | exact C_isnt0 | exact C_isnt1 rfl | exact C_isntT) ?_
  apply k_ye
  apply Ts_goP
  apply T_cmpP
  refine E_loc rfl ?_
  apply E_list
  apply Es_cons
  apply E_str
  apply Es_cons
  apply E_str
  apply Es_nil
  refine k_sh (lb rfl) ?_
  refine k_cm false (cmt (C_in (.inr (get_new _ _)) rfl) (by show (sq _ _ || (sq _ _ || false)) = false; rw [sq_no h1, sq_no h2]; rfl)) ?_
  apply k_ye
  apply Ts_nilP
  apply X_nilP
  apply X_consP
  apply S_ret
  refine E_loc rfl ?_
  apply hQ
  exact ⟨rfl, rfl⟩
 obtain ⟨_, _, h, rfl, rfl⟩ := this
 exact h
theorem sess_init {u : List Nat} {n tm tk : Int} (hn : 1 ≤ T.n) : CaP c (hnew T (.inst 374 [])) 364 [.ref T.n, .int n, .str u, .int tm, .int tk] (d + 1) fun v T' => v = .none ∧ T'.get T.n = some (Sn.ob ⟨n, T.n, u, tm⟩ tk) ∧ Upd T.n All T T' ∧ T'.n = T.n + 1 := by
 refine C_funQ ok (l := [(1735222900, _), (126883592042095, _), (1936094326, _), (33062797402073717, _), (1818520181, _)]) (tF hG rfl) rfl fun Qz hQ => ?_
 apply X_consP
 apply S_asgL ok
 refine E_loc rfl ?_
 apply k_al
 exact rfl
 ·(with_reducible repeat' first|assumption|exact get_new _ _|apply get_put|apply get_old|refine get_nf (by assumption) ?_|apply get_kd|with_unfolding_all rfl)
 exact tA hG rfl
 exact lb rfl
 first | assumption | exact Nat.le_add_left 1 _ | exact lb rfl
 apply X_consP
 apply S_asgL ok
 refine E_loc rfl ?_
 apply k_al
 exact rfl
 ·(with_reducible repeat' first|assumption|exact get_new _ _|apply get_put|apply get_old|refine get_nf (by assumption) ?_|apply get_kd|with_unfolding_all rfl)
 exact tA hG rfl
 exact lb rfl
 first | assumption | exact Nat.le_add_left 1 _ | exact lb rfl
 apply X_consP
 apply S_asgL ok
 refine E_loc rfl ?_
 apply k_al
 exact rfl
 ·(with_reducible repeat' first|assumption|exact get_new _ _|apply get_put|apply get_old|refine get_nf (by assumption) ?_|apply get_kd|with_unfolding_all rfl)
 exact tA hG rfl
 exact lb rfl
 first | assumption | exact Nat.le_add_left 1 _ | exact lb rfl
 apply X_consP
 apply S_asgL ok
 refine E_loc rfl ?_
 apply k_al
 exact rfl
 ·(with_reducible repeat' first|assumption|exact get_new _ _|apply get_put|apply get_old|refine get_nf (by assumption) ?_|apply get_kd|with_unfolding_all rfl)
 exact tA hG rfl
 exact lb rfl
 first | assumption | exact Nat.le_add_left 1 _ | exact lb rfl
 apply X_nilP
 apply hQ
 exact ⟨rfl, get_put (get_put (get_put (get_put (get_new _ _)))), by (with_reducible repeat' first|assumption|exact Upd.refl|apply Upd.new|apply Upd.put|apply Upd.leA), rfl⟩
theorem number_ok (hs : T.get s = some sf.ob) (ps : 1 ≤ s) : Ca c 472 [.ref s] (d + 1) T (.int (sf.cnt + 1)) (hput T s (SF.ob { sf with cnt := sf.cnt + 1 })) := by
 have : CaP c T 472 [.ref s] (d + 1) fun v T' => v = .int (sf.cnt + 1) ∧ T' = hput T s (SF.ob { sf with cnt := sf.cnt + 1 }) := by
  refine C_funQ ok (l := [(1735222900, _)]) (tF hG rfl) rfl fun Qz hQ => ?_
  apply X_consP
  apply S_asgL ok
  apply E_bin
  apply E_la ok
  exact rfl
  ·(with_reducible repeat' first|assumption|exact get_new _ _|apply get_put|apply get_old|refine get_nf (by assumption) ?_|apply get_kd|with_unfolding_all rfl)
  exact tA hG rfl
  exact rfl
  apply E_int
  refine k_bi (B_addI) ?_
  apply k_al
  exact rfl
  ·(with_reducible repeat' first|assumption|exact get_new _ _|apply get_put|apply get_old|refine get_nf (by assumption) ?_|apply get_kd|with_unfolding_all rfl)
  exact tA hG rfl
  exact lb rfl
  first | assumption | exact Nat.le_add_left 1 _ | exact lb rfl
  apply X_consP
  apply S_ret
  apply E_la ok
  exact rfl
  ·(with_reducible repeat' first|assumption|exact get_new _ _|apply get_put|apply get_old|refine get_nf (by assumption) ?_|apply get_kd|with_unfolding_all rfl)
  exact tA hG rfl
  exact rfl
  apply hQ
  exact ⟨rfl, rfl⟩
 obtain ⟨_, _, h, rfl, rfl⟩ := this
 exact h
end
theorem TreeAt.offS {T : Hp} {lo t r : Nat} {es : Es} {fs : List (Nat × AV)} {o' : AO} (h : TreeAt T lo t es) (g : T.get r = some (.inst 720 fs)) : TreeAt (hput T r o') lo t es := h.off g rfl rfl rfl
noncomputable abbrev es00 : Es := [([47], root0)]
noncomputable abbrev ann : List Nat := [97, 110, 110]
noncomputable abbrev en3 (dt : List Nat) (v g : Int) : En := ⟨.str dt, v, 0, .none, .none, .none, 0, 1, g⟩
noncomputable abbrev es3 (dt : List Nat) (v g : Int) : Es := [([47], bump false root0), (pa, en3 dt v g)]
theorem pa_facts : okP pa = true ∧ pa ≠ [47] ∧ parL pa = [47] := by decide +kernel
theorem es3_mk (dt : List Nat) (n : Int) : appE 1 es00 (crC pa dt false false n) = es3 dt 0 1 := by
 show upE (parL pa) _ _ ++ _ = _
 rw [pa_facts.2.2]; rfl
theorem es3_set (dt dt' : List Nat) (v g r : Int) : appE r (es3 dt v g) (.set pa (.str dt')) = es3 dt' (v + 1) r := rfl
theorem rch3 {dt : List Nat} {v g : Int} : Rch (es3 dt v g) pa := .up (okP_of pa_facts.1) pa_facts.2.1 (.inr ⟨_, .tail _ (.head _), rfl⟩) (by rw [pa_facts.2.2]; exact .here (.head _) rfl)
noncomputable def wdOf (r : Nat) : List Nat := if r = 1 then [99, 114, 101, 97, 116, 101] else [115, 101, 116]
structure RowsOk (sta : Nat) (rows : List Rn) (rev : Nat) : Prop where
 len : rows.length + sta = rev
 at_ : ∀ i y, rows[i]? = some y → y.rev = ((sta + i + 1 : Nat) : Int) ∧ chP y.ch = pa ∧ chW y.ch = wdOf (sta + i + 1)
theorem RowsOk.snoc {sta rev : Nat} {rows : List Rn} {y : Rn} (h : RowsOk sta rows rev) (h1 : y.rev = ((rev + 1 : Nat) : Int)) (h2 : chP y.ch = pa) (h3 : chW y.ch = wdOf (rev + 1)) : RowsOk sta (rows ++ [y]) (rev + 1) := by
 refine ⟨by rw [List.length_append, ← h.len]; show rows.length + 1 + sta = _; omega, fun i z e => ?_⟩
 by_cases q : i < rows.length
 ·rw [List.getElem?_append_left q] at e
  exact h.at_ i z e
 ·rw [List.getElem?_append_right (Nat.le_of_not_lt q)] at e
  have : i - rows.length = 0 := by
   cases w : i - rows.length with
   | zero => rfl
   | succ k => rw [w] at e; cases e
  rw [this] at e
  cases e
  have : sta + i + 1 = rev + 1 := by have := h.len; omega
  rw [this]; exact ⟨h1, h2, h3⟩
theorem RowsOk.nil {rev : Nat} : RowsOk rev [] rev := ⟨Nat.zero_add _, fun i y e => (by cases e)⟩
section
variable {c : Cx} (ok : Ok c) (hG : c.G = G) {d s lr sp t : Nat} {T : Hp} {es es' : Es} {sf : SF} {rows : List Rn} {sta : Int} {loc : Loc} {x : Sn} {ss : List Sn} {ep : Nat}
include ok hG
theorem log_init (hn : 1 ≤ T.n) : CaP c (hnew T (.inst 320 [])) 279 [.ref T.n] (d + 8) fun u T' => u = .none ∧ ∃ lr sp, T'.get T.n = some (logOb lr sp 0) ∧ T'.get lr = some (.list []) ∧ 1 ≤ lr ∧ Upd T.n All T T' := by
 have u1 : Upd T.n All T (hput (hnew (hnew T (.inst 320 [])) (.list [])) T.n (.inst 320 [(1954050163, .ref (hnew T (.inst 320 [])).n)])) := Upd.refl.new.new.put (Nat.le_refl _)
 refine C_funQ ok (l := [(1735222900, _)]) (tF hG rfl) rfl fun Qz hQ => ?_
 apply X_consP
 apply S_asgL ok
 apply E_list
 apply Es_nil
 refine k_sh (lb rfl) ?_
 apply k_al
 exact rfl
 ·(with_reducible repeat' first|assumption|exact get_new _ _|apply get_put|apply get_old|refine get_nf (by assumption) ?_|apply get_kd|with_unfolding_all rfl)
 exact tA hG rfl
 exact lb rfl
 first | assumption | exact Nat.le_add_left 1 _ | exact lb rfl
 apply X_consP
 apply S_asgL ok
 refine E_new ok (tG hG rfl) (tC hG rfl) rfl ?_
 apply Es_cons
 apply E_int
 apply Es_cons
 refine E_new ok (tG hG rfl) (tC hG rfl) rfl ?_
 apply Es_nil
 refine CaP.imp (tree_init ok hG (d := d + 3) (Nat.le_succ_of_le (Nat.le_succ_of_le hn))) ?_
 rintro _ T2 ⟨rfl, tr2, u2⟩
 apply k_no
 apply Es_nil
 refine CaP.imp (snap_init ok hG (d := d) tr2 (Nat.le_trans (Nat.le_succ_of_le (Nat.le_succ_of_le hn)) u2.1)) ?_
 rintro _ T3 ⟨rfl, st, g3, u3⟩
 have u23 := u2.then u3 u2.1
 have g4 : T3.get T.n = some (.inst 320 [(1954050163, .ref (hnew T (.inst 320 [])).n)]) := u23.get trivial (get_put (get_old (get_new _ _)))
 have g5 : T3.get (hnew T (.inst 320 [])).n = some (.list []) := u23.get trivial (get_kd (get_old (get_new _ _)) (get_new _ _) rfl)
 apply k_no
 apply k_al
 exact rfl
 ·(with_reducible repeat' first|assumption|exact get_new _ _|apply get_put|apply get_old|refine get_nf (by assumption) ?_|apply get_kd|with_unfolding_all rfl)
 exact tA hG rfl
 exact lb rfl
 first | assumption | exact Nat.le_add_left 1 _ | exact lb rfl
 apply X_consP
 apply S_asgL ok
 apply E_int
 apply k_al
 exact rfl
 ·(with_reducible repeat' first|assumption|exact get_new _ _|apply get_put|apply get_old|refine get_nf (by assumption) ?_|apply get_kd|with_unfolding_all rfl)
 exact tA hG rfl
 exact lb rfl
 first | assumption | exact Nat.le_add_left 1 _ | exact lb rfl
 apply X_nilP
 apply hQ
 exact ⟨rfl, _, _, get_put (get_put g4), get_kd (get_put g4) (get_kd g4 g5 rfl) rfl, Nat.le_succ_of_le hn, ((u1.then u23 u1.1).put (Nat.le_refl _)).put (Nat.le_refl _)⟩
theorem store_init {kp : Int} (hk : 1 ≤ kp) (hn : 1 ≤ T.n) : CaP c (hnew T (.inst 720 [])) 465 [.ref T.n, .int kp] (d + 10) fun u T' => u = .none ∧ ∃ (lr sp : Nat) (sf : SF), St4 T' T.n lr sp sf 0 [] es00 ∧ SesAt T' sf.ses 0 [] ∧ T'.get sf.wat = some (.dict [] 0) ∧ sf.wat ≠ sf.ses ∧ 1 ≤ sf.wat ∧ sf.cnt = 0 ∧ sf.rev = 0 ∧ sf.keep = kp ∧ Upd T.n All T T' := by
 refine C_funQ ok (l := [(1735222900, _), (1902536300, _)]) (tF hG rfl) rfl fun Qz hQ => ?_
 apply X_consP
 apply S_if
 apply T_cmpP
 refine E_loc rfl ?_
 apply E_none
 refine k_cm true (by first | exact C_isnt0 | exact C_isnt1 rfl | exact C_isntT) ?_
 apply X_consP
 apply S_expr
 refine E_callF ok (tG hG rfl) (tF hG rfl) ?_
 refine Es_loc rfl ?_
 apply Es_nil
 refine k_ca (ticks_ok ok hG hk) ?_
 apply X_nilP
 apply X_consP
 apply S_asgL ok
 refine E_new ok (tG hG rfl) (tC hG rfl) rfl ?_
 apply Es_nil
 refine CaP.imp (tree_init ok hG (d := d + 5) (Nat.le_succ_of_le hn)) ?_
 rintro _ T2 ⟨rfl, tr2, u2⟩
 have g2 : T2.get T.n = some (.inst 720 []) := u2.get trivial (get_new _ _)
 apply k_no
 apply k_al
 exact rfl
 ·(with_reducible repeat' first|assumption|exact get_new _ _|apply get_put|apply get_old|refine get_nf (by assumption) ?_|apply get_kd|with_unfolding_all rfl)
 exact tA hG rfl
 exact lb rfl
 first | assumption | exact Nat.le_add_left 1 _ | exact lb rfl
 apply X_consP
 apply S_asgL ok
 refine E_new ok (tG hG rfl) (tC hG rfl) rfl ?_
 apply Es_nil
 refine CaP.imp (log_init ok hG (d := d) (Nat.le_trans (Nat.le_succ_of_le hn) u2.1)) ?_
 rintro _ T3 ⟨rfl, lr, sp, g3, g4, l5, u3⟩
 have g6 : T3.get T.n = some (.inst 720 [(1717990261, .ref (hnew T (.inst 720 [])).n)]) := u3.get trivial (get_put g2)
 have tr3 := (tr2.off g2 (o' := .inst 720 [(1717990261, .ref (hnew T (.inst 720 [])).n)]) rfl rfl rfl).all u3
 apply k_no
 apply k_al
 exact rfl
 ·(with_reducible repeat' first|assumption|exact get_new _ _|apply get_put|apply get_old|refine get_nf (by assumption) ?_|apply get_kd|with_unfolding_all rfl)
 exact tA hG rfl
 exact lb rfl
 first | assumption | exact Nat.le_add_left 1 _ | exact lb rfl
 apply X_consP
 apply S_asgL ok
 refine E_loc rfl ?_
 apply k_al
 exact rfl
 ·(with_reducible repeat' first|assumption|exact get_new _ _|apply get_put|apply get_old|refine get_nf (by assumption) ?_|apply get_kd|with_unfolding_all rfl)
 exact tA hG rfl
 exact lb rfl
 first | assumption | exact Nat.le_add_left 1 _ | exact lb rfl
 apply X_consP
 apply S_asgL ok
 apply E_int
 apply k_al
 exact rfl
 ·(with_reducible repeat' first|assumption|exact get_new _ _|apply get_put|apply get_old|refine get_nf (by assumption) ?_|apply get_kd|with_unfolding_all rfl)
 exact tA hG rfl
 exact lb rfl
 first | assumption | exact Nat.le_add_left 1 _ | exact lb rfl
 apply X_consP
 apply S_asgL ok
 apply E_int
 apply k_al
 exact rfl
 ·(with_reducible repeat' first|assumption|exact get_new _ _|apply get_put|apply get_old|refine get_nf (by assumption) ?_|apply get_kd|with_unfolding_all rfl)
 exact tA hG rfl
 exact lb rfl
 first | assumption | exact Nat.le_add_left 1 _ | exact lb rfl
 apply X_consP
 apply S_asgL ok
 apply E_dict0 ok
 apply k_al
 exact rfl
 ·(with_reducible repeat' first|assumption|exact get_new _ _|apply get_put|apply get_old|refine get_nf (by assumption) ?_|apply get_kd|with_unfolding_all rfl)
 exact tA hG rfl
 exact lb rfl
 first | assumption | exact Nat.le_add_left 1 _ | exact lb rfl
 apply X_consP
 apply S_asgL ok
 apply E_dict0 ok
 apply k_al
 exact rfl
 ·(with_reducible repeat' first|assumption|exact get_new _ _|apply get_put|apply get_old|refine get_nf (by assumption) ?_|apply get_kd|with_unfolding_all rfl)
 exact tA hG rfl
 exact lb rfl
 first | assumption | exact Nat.le_add_left 1 _ | exact lb rfl
 apply X_consP
 apply S_asgL ok
 apply E_dict0 ok
 apply k_al
 exact rfl
 ·(with_reducible repeat' first|assumption|exact get_new _ _|apply get_put|apply get_old|refine get_nf (by assumption) ?_|apply get_kd|with_unfolding_all rfl)
 exact tA hG rfl
 exact lb rfl
 first | assumption | exact Nat.le_add_left 1 _ | exact lb rfl
 apply X_consP
 apply S_asgL ok
 apply E_int
 apply k_al
 exact rfl
 ·(with_reducible repeat' first|assumption|exact get_new _ _|apply get_put|apply get_old|refine get_nf (by assumption) ?_|apply get_kd|with_unfolding_all rfl)
 exact tA hG rfl
 exact lb rfl
 first | assumption | exact Nat.le_add_left 1 _ | exact lb rfl
 apply X_nilP
 apply hQ
 have u03 : Upd T.n All T T3 := ((Upd.refl.new.then u2 (Nat.le_succ _)).put (Nat.le_refl _)).then u3 (Nat.le_trans (Nat.le_succ _) u2.1)
 have l3 : 1 ≤ T3.n := Nat.le_trans hn u03.1
 refine ⟨rfl, lr, sp, ⟨_, _, 0, 0, _, _, _, 0, kp⟩, ⟨get_put (by (with_reducible repeat' first|assumption|exact get_new _ _|apply get_put|apply get_old|refine get_nf (by assumption) ?_|apply get_kd|with_unfolding_all rfl)), hn, by (with_reducible repeat' first|assumption|exact get_new _ _|apply get_put|apply get_old|refine get_nf (by assumption) ?_|apply get_kd|with_unfolding_all rfl), Nat.le_trans (Nat.le_succ_of_le hn) u2.1, show Hp.get _ lr = some (.list []) from by (with_reducible repeat' first|assumption|exact get_new _ _|apply get_put|apply get_old|refine get_nf (by assumption) ?_|apply get_kd|with_unfolding_all rfl), l5, fun x m => (by cases m), ?_, rfl, fun x m => (by cases m), Int.le_refl _⟩, ⟨show Hp.get _ _ = some (.dict [] 0) from by (with_reducible repeat' first|assumption|exact get_new _ _|apply get_put|apply get_old|refine get_nf (by assumption) ?_|apply get_kd|with_unfolding_all rfl), fun x m => (by cases m), List.nodup_nil⟩, by (with_reducible repeat' first|assumption|exact get_new _ _|apply get_put|apply get_old|refine get_nf (by assumption) ?_|apply get_kd|with_unfolding_all rfl), ?_, ?_, rfl, rfl, rfl, ?_⟩
 ·exact TreeAt.weak (lo := (hnew T (.inst 720 [])).n) (by (with_reducible repeat' first|assumption|apply TreeAt.offS|refine TreeAt.all ?_ Upd.refl.new|exact get_new _ _|apply get_put|apply get_old|apply get_kd|with_unfolding_all rfl)) (Nat.le_succ_of_le hn)
 ·exact Nat.ne_of_gt (Nat.lt_succ_of_lt (Nat.lt_succ_self _))
 ·exact Nat.le_succ_of_le (Nat.le_succ_of_le l3)
 ·(with_reducible repeat' first|assumption|exact Upd.refl|apply Upd.new|apply Upd.put|apply Upd.leA)
theorem open_ok {u : List Nat} {args : List AV} {tm : Int} (hb : binds f_Store_open.params args (f_Store_open.dfl.drop (args.length - (f_Store_open.params.length - f_Store_open.dfl.length))) (f_Store_open.params.length - f_Store_open.dfl.length) = some [(1735222900, .ref s), (1936094326, .str u), (33062797402073717, .int tm)]) (htm : 1 ≤ tm) (X : St4 T s lr sp sf sta rows es) (se : SesAt T sf.ses ep ss) (h1 : u ≠ []) (h2 : u ≠ [42]) (hnew' : sf.cnt + 1 ∉ ss.map Sn.num) (sz : ss.length < 60) (pd : 1 ≤ sf.ses) (ne : es ≠ []) (hn : 1 ≤ T.n) :
  CaP c T 480 args (d + 3) fun v T' => v = .int (sf.cnt + 1) ∧ ∃ x : Sn, x.num = sf.cnt + 1 ∧ x.u = u ∧ T.n ≤ x.r ∧ St4 T' s lr sp { sf with cnt := sf.cnt + 1 } sta rows es ∧ SesAt T' sf.ses (ep + 1) (ss ++ [x]) ∧ Upd T.n (fun r _ => r ≠ s ∧ r ≠ sf.ses) T T' := by
 have hs := X.hs
 obtain ⟨_, T2, h3, rfl, g2, u2, n2⟩ := sess_init ok hG (d := d) (T := hnew T (.list [.str [], .str [42]])) (u := u) (n := sf.cnt + 1) (tm := tm) (tk := sf.tick) (Nat.le_succ_of_le hn)
 have u02 : Upd T.n All T T2 := Upd.refl.new.then u2 (Nat.le_succ _)
 have hs2 := u02.get trivial hs
 have hd2 := u02.get trivial se.hd
 have hd3 : (hput T2 s (SF.ob { sf with cnt := sf.cnt + 1 })).get sf.ses = some (.dict (ss.map Sn.dc) ep) := get_kd hs2 hd2 rfl
 have g3 : (hput T2 s (SF.ob { sf with cnt := sf.cnt + 1 })).get (hnew T (.list [.str [], .str [42]])).n = some (Sn.ob ⟨sf.cnt + 1, (hnew T (.list [.str [], .str [42]])).n, u, tm⟩ sf.tick) := get_kd hs2 g2 rfl
 refine C_funQ ok (tF hG rfl) hb fun Q hQ => ?_
 apply X_consP
 apply S_asg
 refine E_new ok (tG hG rfl) (tC hG rfl) rfl ?_
 apply Es_cons
 apply E_bin
 apply E_la ok
 exact rfl
 ·(with_reducible repeat' first|assumption|exact get_new _ _|apply get_put|apply get_old|refine get_nf (by assumption) ?_|apply get_kd|with_unfolding_all rfl)
 exact tA hG rfl
 exact rfl
 apply E_int
 refine k_bi (B_addI) ?_
 apply Es_cons
 refine E_callF ok (tG hG rfl) (tF hG rfl) ?_
 refine Es_loc rfl ?_
 apply Es_nil
 refine k_ca (user_ok ok hG h1 h2) ?_
 apply Es_cons
 refine E_callF ok (tG hG rfl) (tF hG rfl) ?_
 refine Es_loc rfl ?_
 apply Es_nil
 refine k_ca (ticks_ok ok hG htm) ?_
 apply Es_cons
 apply E_la ok
 exact rfl
 ·(with_reducible repeat' first|assumption|exact get_new _ _|apply get_put|apply get_old|refine get_nf (by assumption) ?_|apply get_kd|with_unfolding_all rfl)
 exact tA hG rfl
 exact rfl
 apply Es_nil
 refine k_ca (h3) ?_
 apply k_no
 apply X_consP
 apply S_asgS
 refine E_loc rfl ?_
 apply E_la ok
 exact rfl
 ·(with_reducible repeat' first|assumption|exact get_new _ _|apply get_put|apply get_old|refine get_nf (by assumption) ?_|apply get_kd|with_unfolding_all rfl)
 exact tA hG rfl
 exact rfl
 apply E_lm ok
 exact rfl
 ·(with_reducible repeat' first|assumption|exact get_new _ _|apply get_put|apply get_old|refine get_nf (by assumption) ?_|apply get_kd|with_unfolding_all rfl)
 exact tM hG rfl
 exact rfl
 apply Es_nil
 refine k_ca (number_ok ok hG hs2 X.ps) ?_
 apply k_dp
 exact hd3
 exact kOk_ses
 rw [List.length_map]; exact lt4 (Nat.le_of_lt sz) rfl
 exact pd
 apply X_consP
 apply S_ret
 apply E_la ok
 exact rfl
 ·(with_reducible repeat' first|assumption|exact get_new _ _|apply get_put|apply get_old|refine get_nf (by assumption) ?_|apply get_kd|with_unfolding_all rfl)
 exact tA hG rfl
 exact rfl
 apply hQ
 have uf : Upd T.n (fun r _ => r ≠ s ∧ r ≠ sf.ses) T (hput (hput T2 s (SF.ob { sf with cnt := sf.cnt + 1 })) sf.ses (.dict (dpt (.int (sf.cnt + 1)) (.ref (hnew T (.list [.str [], .str [42]])).n) (ss.map Sn.dc)) (epS (.int (sf.cnt + 1)) (ss.map Sn.dc) ep))) := (u02.a.set (fun _ k => k.1 rfl) hs).set (fun _ k => k.2 rfl) se.hd
 have kt : ∀ y vs, T.get y = some (.tuple vs) → y ≠ s ∧ y ≠ sf.ses := fun y vs g => ⟨ne_kd hs g rfl, ne_kd se.hd g rfl⟩
 have gk : ∀ {r : Nat} {a : AO}, T.get r = some a → Nat.beq (kd sf.ob) (kd a) = false → Nat.beq 0 (kd a) = false → _ := fun {r a} g q1 q2 => uf.get ⟨ne_kd hs g q1, ne_kd se.hd g q2⟩ g
 refine ⟨rfl, ⟨sf.cnt + 1, (hnew T (.list [.str [], .str [42]])).n, u, tm⟩, rfl, rfl, Nat.le_succ _, ⟨get_kd hd3 (get_put hs2) rfl, X.ps, gk X.hl rfl rfl, X.pg, gk X.hr rfl rfl, X.pl, fun y m => (X.rn y m).upd uf kt, X.tr.keep2 ne hs se.hd uf, X.lst, X.rle, X.sle⟩, ⟨?_, fun y m => ?_, ?_⟩, uf⟩
 ·rw [← dpt_ses (x := ⟨sf.cnt + 1, (hnew T (.list [.str [], .str [42]])).n, u, tm⟩) hnew']
  have e : epS (.int (sf.cnt + 1)) (ss.map Sn.dc) ep = ep + 1 := by unfold epS; rw [dlk_sno hnew']
  rw [e]; exact get_put hd3
 ·rcases List.mem_append.mp m with m | m
  ·obtain ⟨q1, h, g⟩ := se.he y m
   exact ⟨q1, h, gk g rfl rfl⟩
  ·cases List.mem_singleton.mp m
   exact ⟨Nat.le_succ_of_le hn, sf.tick, get_kd hd3 g3 rfl⟩
 ·rw [List.map_append, List.nodup_append]
  refine ⟨se.nd, nd1, fun a ha b hb => ?_⟩
  cases List.mem_singleton.mp hb
  exact fun q => hnew' ((show a = sf.cnt + 1 from q) ▸ ha)
end
theorem cut_rows {n lr lr' : Nat} {sf : SF} {sta' : Int} {rows rows' : List Rn} {ch : Ch} {sta rev kp : Nat} (h : Cut n lr lr' sf (sta : Int) sta' rows rows' ch) (r : RowsOk sta rows rev) (er : sf.rev = rev) (ek : sf.keep = kp) (hp : chP ch = pa) (hw : chW ch = wdOf (rev + 1)) : ∃ s' : Nat, sta' = (s' : Int) ∧ RowsOk s' rows' (rev + 1) ∧ rows'.length ≤ kp ∧ (lr' = lr ∨ n ≤ lr') := by
 obtain ⟨y, h1, h2, ⟨e1, e2, e3, e4⟩ | ⟨e1, e2, e3⟩⟩ := h
 ·subst e3
  exact ⟨sta, e2, r.snoc (by rw [h1, er]; rfl) (by rw [h2]; exact hp) (by rw [h2]; exact hw), by rw [ek] at e4; omega, .inl e1⟩
 ·subst e2
  exact ⟨rev + 1, by rw [e3, er]; rfl, .nil, Nat.zero_le _, .inr e1⟩
theorem rv_ne {rev : Nat} (h : 1 ≤ rev) : (rev : Int) - 1 ≠ -1 := by omega
theorem rv_up (rev : Nat) : (rev : Int) - 1 + 1 = ((rev + 1 : Nat) : Int) - 1 := by omega
theorem wd_set {rev : Nat} (h : 1 ≤ rev) : [115, 101, 116] = wdOf (rev + 1) := by unfold wdOf; rw [if_neg fun e => absurd (Nat.succ.inj e) (Nat.ne_of_gt h)]
structure B4 (T : Hp) (s lr : Nat) (ns : List Int) (x : Sn) (sf : SF) (sta rev kp : Nat) (rows : List Rn) : Prop where
 X : ∃ sp dt g, St4 T s lr sp sf sta rows (es3 dt ((rev : Int) - 1) g)
 rw : RowsOk sta rows rev
 er : sf.rev = rev
 ek : sf.keep = kp
 se : SesAt T sf.ses 1 [x]
 xu : x.u = ann
 xn : x.num = 1
 scr : T.get 0 = some (.list (ns.map .int))
 pn : 1 ≤ T.n
 rl : rows.length ≤ kp
 k4 : kp ≤ 4
theorem B4.new {T T' : Hp} {s lr sta rev kp : Nat} {ns : List Int} {x : Sn} {sf : SF} {rows : List Rn} (B : B4 T s lr ns x sf sta rev kp rows) (u : Upd T.n All T T') : B4 T' s lr ns x sf sta rev kp rows :=
 let ⟨sp, dt, g, X⟩ := B.X
 { B with X := ⟨sp, dt, g, X.new u⟩, se := B.se.upd u (fun _ _ _ => trivial) fun _ _ _ => trivial, scr := u.get trivial B.scr, pn := Nat.le_trans B.pn u.1 }
section
variable {c : Cx} (ok : Ok c) (hG : c.G = G) {d s lr sp : Nat} {T : Hp} {sf : SF} {rows : List Rn} {x : Sn} {ns : List Int} {sta rev kp : Nat} {data : List Nat}
include ok hG
theorem set0 (B : B4 T s lr ns x sf sta rev kp rows) (hr : 1 ≤ rev) (hw : T.get sf.wat = some (.dict [] 0)) : CaP c T 617 [.ref s, .int 1, .str pa, .str data] (d + 12) fun v T' => ∃ sf' lr' sta' rows', B4 T' s lr' ns x sf' sta' (rev + 1) kp rows' ∧ T'.get sf'.wat = some (.dict [] 0) ∧ sf'.wat = sf.wat := by
 obtain ⟨sp, dt, g, X⟩ := B.X
 have rl := B.rl
 have k4 := B.k4
 obtain ⟨px, hh, gx⟩ := B.se.he x (.head _)
 have un : Upd T.n All T (hnew T (.tuple [.str [115, 101, 116], .str pa, .str data, .none])) := Upd.refl.new
 have h := alone0 ok hG (d := d) (X.new un) (un.get trivial hw) (Nat.lt_of_le_of_lt (Nat.le_trans rl k4) (lb rfl)) (B.se.upd un (fun _ _ _ => trivial) fun _ _ _ => trivial) (.head _) (step_set ok hG (d := d + 1) (e := en3 dt ((rev : Int) - 1) g) (data := data) (told := .none) (okP_of pa_facts.1) rch3 (by rw [B.xu]; decide) (.tail _ (.head _)) (rv_ne hr) (.inl rfl)) rfl (lb rfl) (get_new _ _) (Nat.le_succ_of_le B.pn)
 rw [B.xn, es3_set] at h
 have hs := X.hs
 refine C_funQ ok (l := [(1735222900, _), (126883592042095, _), (1769300593, _), (1651860069, _), (31367324937447031, _)]) (tF hG rfl) rfl fun Qz hQ => ?_
 apply X_consP
 apply S_ret
 apply E_lm ok
 exact rfl
 ·(with_reducible repeat' first|assumption|exact get_new _ _|apply get_put|apply get_old|refine get_nf (by assumption) ?_|apply get_kd|with_unfolding_all rfl)
 exact tM hG rfl
 exact rfl
 refine Es_loc rfl ?_
 apply Es_cons
 apply E_tuple
 apply Es_cons
 apply E_str
 refine Es_loc rfl ?_
 refine Es_loc rfl ?_
 refine Es_loc rfl ?_
 apply Es_nil
 refine k_sh (lb rfl) ?_
 apply Es_nil
 refine CaP.imp (h) ?_
 rintro _ T9 ⟨rfl, t, lr', sp', sta', rows', X9, ct, w9, se9, u9⟩
 apply hQ
 obtain ⟨s', e1, r1, l1, _⟩ := cut_rows ct B.rw B.er B.ek rfl (wd_set hr)
 subst e1
 rw [rv_up] at X9
 exact ⟨_, lr', s', rows', ⟨⟨sp', data, _, X9⟩, r1, by show sf.rev + 1 = _; rw [B.er]; rfl, B.ek, se9, B.xu, B.xn, u9.get ⟨Nat.ne_of_lt px, Nat.ne_of_lt X.pl, Nat.ne_of_lt X.pl, rfl⟩ (get_old B.scr), Nat.le_trans (Nat.le_succ_of_le B.pn) u9.1, l1, k4⟩, w9, rfl⟩
theorem set1 {w ev : Nat} {n last : Int} {ws : List Ew} (B : B4 T s lr ns x sf sta rev kp rows) (hr : 1 ≤ rev) (W : W1 T sf.wat w n 1 last ev ws) (nev : ev ≠ lr) (szw : ws.length < 15) (hlt : last ≤ rev) : CaP c T 617 [.ref s, .int 1, .str pa, .str data] (d + 12) fun v T' => ∃ sf' lr' sta' rows', B4 T' s lr' ns x sf' sta' (rev + 1) kp rows' ∧ (∃ y : Ew, y.q = (((rev + 1 : Nat) : Int), [115, 101, 116]) ∧ W1 T' sf'.wat w n 1 ((rev + 1 : Nat) : Int) ev (ws ++ [y])) ∧ sf'.ses = sf.ses ∧ (lr' = lr ∨ T.n ≤ lr') ∧ Upd T.n (KX lr ev x.r) T T' := by
 obtain ⟨sp, dt, g, X⟩ := B.X
 have rl := B.rl
 have k4 := B.k4
 obtain ⟨px, hh, gx⟩ := B.se.he x (.head _)
 have un : Upd T.n All T (hnew T (.tuple [.str [115, 101, 116], .str pa, .str data, .none])) := Upd.refl.new
 have Wn := W.upd un trivial trivial trivial fun _ _ _ => trivial
 rw [← B.xn] at Wn
 have h := alone1 ok hG (d := d) (ch := .set pa (.str data)) (e := en3 data ((rev : Int) - 1 + 1) (sf.rev + 1)) (X.new un) Wn nev (Nat.lt_of_le_of_lt (Nat.le_trans rl k4) (lb rfl)) szw (by rw [B.er]; exact hlt) (B.se.upd un (fun _ _ _ => trivial) fun _ _ _ => trivial) (.head _) (by rw [B.xu]; decide) (by rw [es3_set]; exact .tail _ (.head _)) (by rw [es3_set]; exact rch3) rfl (step_set ok hG (d := d + 1) (e := en3 dt ((rev : Int) - 1) g) (data := data) (told := .none) (okP_of pa_facts.1) rch3 (by rw [B.xu]; decide) (.tail _ (.head _)) (rv_ne hr) (.inl rfl)) rfl (lb rfl) (get_new _ _) (Nat.le_succ_of_le B.pn)
 rw [B.xn, es3_set, B.er] at h
 have hs := X.hs
 refine C_funQ ok (l := [(1735222900, _), (126883592042095, _), (1769300593, _), (1651860069, _), (31367324937447031, _)]) (tF hG rfl) rfl fun Qz hQ => ?_
 apply X_consP
 apply S_ret
 apply E_lm ok
 exact rfl
 ·(with_reducible repeat' first|assumption|exact get_new _ _|apply get_put|apply get_old|refine get_nf (by assumption) ?_|apply get_kd|with_unfolding_all rfl)
 exact tM hG rfl
 exact rfl
 refine Es_loc rfl ?_
 apply Es_cons
 apply E_tuple
 apply Es_cons
 apply E_str
 refine Es_loc rfl ?_
 refine Es_loc rfl ?_
 refine Es_loc rfl ?_
 apply Es_nil
 refine k_sh (lb rfl) ?_
 apply Es_nil
 refine CaP.imp (h) ?_
 rintro _ T9 ⟨rfl, t, lr', sp', sta', rows', X9, ct, ⟨y, ey, w9⟩, se9, u9⟩
 apply hQ
 obtain ⟨s', e1, r1, l1, l2⟩ := cut_rows ct B.rw B.er B.ek rfl (wd_set hr)
 subst e1
 rw [rv_up] at X9
 have lev : T.n ≤ (hnew T (.tuple [.str [115, 101, 116], .str pa, .str data, .none])).n := Nat.le_succ _
 exact ⟨_, lr', s', rows', ⟨⟨sp', data, _, X9⟩, r1, rfl, B.ek, se9, B.xu, B.xn, u9.get ⟨Nat.ne_of_lt px, Nat.ne_of_lt X.pl, Nat.ne_of_lt W.pe, rfl⟩ (get_old B.scr), Nat.le_trans (Nat.le_succ_of_le B.pn) u9.1, l1, k4⟩, ⟨y, ey, w9⟩, rfl, l2.imp id fun q => Nat.le_trans lev q, un.a.then u9 lev⟩
theorem create0 {sta0 : Int} (X : St4 T s lr sp sf 0 [] es00) (er : sf.rev = 0) (ek : sf.keep = kp) (k4 : kp ≤ 4) (hw : T.get sf.wat = some (.dict [] 0)) (se : SesAt T sf.ses 1 [x]) (xu : x.u = ann) (xn : x.num = 1) (scr : T.get 0 = some (.list (ns.map .int))) (pn : 1 ≤ T.n) : CaP c T 609 [.ref s, .int 1, .str pa] (d + 12) fun v T' => ∃ sf' lr' sta' rows', B4 T' s lr' ns x sf' sta' 1 kp rows' ∧ T'.get sf'.wat = some (.dict [] 0) ∧ sf'.wat = sf.wat := by
 obtain ⟨p1, p2, p3⟩ := pa_facts
 obtain ⟨px, hh, gx⟩ := se.he x (.head _)
 have un : Upd T.n All T (hnew T (.tuple [.str [99, 114, 101, 97, 116, 101], .str pa, .str [], .bool false, .bool false, .none, .none])) := Upd.refl.new
 have h := alone0 ok hG (d := d) (X.new un) (un.get trivial hw) (lb rfl) (se.upd un (fun _ _ _ => trivial) fun _ _ _ => trivial) (.head _) (step_create ok hG (d := d) (k := 0) (p := pa) (q := pa) (data := []) (num := false) (van := false) (okP_of p1) p2 (by rw [p3]; exact .here (.head _) rfl) (by rw [xu]; decide) ⟨rfl, rfl⟩ rfl ⟨okP_of p1, p2, (by decide +kernel), lb rfl, root0, by rw [p3]; exact .head _, rfl, rfl, rfl⟩) rfl (lb rfl) (get_new _ _) (Nat.le_succ_of_le pn)
 have e1 : sf.rev + 1 = 1 := by rw [er]; rfl
 rw [xn, e1, es3_mk] at h
 have hs := X.hs
 refine C_funQ ok (l := [(1735222900, _), (126883592042095, _), (1769300593, _), (1651860069, _), (115948722807415, _), (7306654329047250543, _), (440039269997, _), (128047628446323, _)]) (tF hG rfl) rfl fun Qz hQ => ?_
 apply X_consP
 apply S_ret
 apply E_lm ok
 exact rfl
 ·(with_reducible repeat' first|assumption|exact get_new _ _|apply get_put|apply get_old|refine get_nf (by assumption) ?_|apply get_kd|with_unfolding_all rfl)
 exact tM hG rfl
 exact rfl
 refine Es_loc rfl ?_
 apply Es_cons
 apply E_tuple
 apply Es_cons
 apply E_str
 refine Es_loc rfl ?_
 refine Es_loc rfl ?_
 refine Es_loc rfl ?_
 refine Es_loc rfl ?_
 refine Es_loc rfl ?_
 refine Es_loc rfl ?_
 apply Es_nil
 refine k_sh (lb rfl) ?_
 apply Es_nil
 refine CaP.imp (h) ?_
 rintro _ T9 ⟨rfl, t, lr', sp', sta', rows', X9, ct, w9, se9, u9⟩
 apply hQ
 obtain ⟨s', e2, r1, l1, _⟩ := cut_rows (sta := 0) ct .nil er ek rfl rfl
 subst e2
 exact ⟨_, lr', s', rows', ⟨⟨sp', [], 1, X9⟩, r1, rfl, ek, se9, xu, xn, u9.get ⟨Nat.ne_of_lt px, Nat.ne_of_lt X.pl, Nat.ne_of_lt X.pl, rfl⟩ (get_old scr), Nat.le_trans (Nat.le_succ_of_le pn) u9.1, l1, k4⟩, w9, rfl⟩
end
theorem lp_of {a b s r : Nat} (h : a + (b + 1) + s = r) (h2 : r ≤ 12) : a < 15 := by omega
noncomputable def fl (since : Nat) (rows : List Rn) : List Rn := rows.filter fun y => decide ((since : Int) < y.rev)
theorem RowsOk.tail {sta rev : Nat} {y : Rn} {rows : List Rn} (h : RowsOk sta (y :: rows) rev) : RowsOk (sta + 1) rows rev := ⟨by have := h.len; rw [List.length_cons] at this; omega, fun i z e => by
 have := h.at_ (i + 1) z e
 rw [show sta + (i + 1) + 1 = sta + 1 + i + 1 by omega] at this
 exact this⟩
theorem fl_ok {since rev : Nat} : ∀ {rows : List Rn} {sta : Nat}, RowsOk sta rows rev → sta ≤ since → since ≤ rev → RowsOk since (fl since rows) rev := by
 intro rows
 induction rows with
 | nil =>
  intro sta h h1 h2
  have := h.len
  have e : since = rev := by rw [List.length_nil] at this; omega
  subst e
  exact .nil
 | cons y rows ih =>
  intro sta h h1 h2
  by_cases q : since = sta
  ·subst q
   have : fl since (y :: rows) = y :: rows := List.filter_eq_self.mpr fun z mz => by
    obtain ⟨i, hi⟩ := List.getElem?_of_mem mz
    have := (h.at_ i z hi).1
    exact decide_eq_true (by rw [this]; omega)
   rw [this]; exact h
  ·have e : fl since (y :: rows) = fl since rows := by
    unfold fl
    rw [List.filter_cons_of_neg]
    have := (h.at_ 0 y rfl).1
    rw [this]
    exact fun z => by have := of_decide_eq_true z; omega
   rw [e]
   exact ih h.tail (by omega) h2
theorem fl_snoc {since : Nat} {l : List Rn} {y : Rn} : fl since (l ++ [y]) = fl since l ++ (if (since : Int) < y.rev then [y] else []) := by
 unfold fl
 rw [List.filter_append]
 congr 1
 by_cases h : (since : Int) < y.rev
 ·rw [List.filter_cons_of_pos (p := fun y : Rn => decide ((since : Int) < y.rev)) (decide_eq_true h), if_pos h]; rfl
 ·rw [List.filter_cons_of_neg (p := fun y : Rn => decide ((since : Int) < y.rev)) (fun z => h (of_decide_eq_true z)), if_neg h]; rfl
noncomputable def evL (a n : Nat) : List (Int × List Nat) := (List.range n).map fun i => (((a + i + 1 : Nat) : Int), wdOf (a + i + 1))
theorem evL_succ (a n : Nat) : evL a (n + 1) = evL a n ++ [(((a + n + 1 : Nat) : Int), wdOf (a + n + 1))] := by unfold evL; rw [List.range_succ, List.map_append]; rfl
theorem B4.see {T T' : Hp} {s lr sta rev kp w ev wt : Nat} {ns : List Int} {x : Sn} {sf : SF} {rows : List Rn} {n ses last : Int} {ws : List Ew} (B : B4 T s lr ns x sf sta rev kp rows) (W : W1 T wt w n ses last ev ws) (nev : ev ≠ lr) (u : Upd T.n (fun r _ => r ≠ w ∧ r ≠ ev) T T') : B4 T' s lr ns x sf sta rev kp rows := by
 obtain ⟨sp, dt, g, X⟩ := B.X
 exact { B with
  X := ⟨sp, dt, g, X.upd u fun r a g q => by
   rcases q with rfl | rfl | rfl | q | q
   ·exact ⟨ne_kd W.hw X.hs rfl, ne_kd W.he.h X.hs rfl⟩
   ·exact ⟨ne_kd W.hw X.hl rfl, ne_kd W.he.h X.hl rfl⟩
   ·exact ⟨ne_kd W.hw X.hr rfl, Ne.symm nev⟩
   ·exact ⟨ne_kd W.hw g (by rw [Nat.eq_of_beq_eq_true q]; rfl), ne_kd W.he.h g (by rw [Nat.eq_of_beq_eq_true q]; rfl)⟩
   ·exact ⟨kd_ne W.hw g q rfl, kd_ne W.he.h g q rfl⟩⟩
  se := B.se.upd u (fun _ _ g => ⟨ne_kd W.hw g rfl, ne_kd W.he.h g rfl⟩) fun _ _ g => ⟨ne_kd W.hw g rfl, ne_kd W.he.h g rfl⟩
  scr := u.get ⟨Nat.ne_of_lt W.pw, Nat.ne_of_lt W.pe⟩ B.scr
  pn := Nat.le_trans B.pn u.1 }
noncomputable abbrev cuB : PSs := (.cons (.expr (.meth (.loc 452656980600) 6710900 (.cons (.loc 8030035183836554867) (.cons (.meth (.loc 1735222900) 478459360352 (.cons (.loc 452656980600) (.cons (.loc 32763696029788516) (.cons (.attr (.loc 1735222900) 1717990261) .nil)))) .nil)))) .nil)
section
variable {c : Cx} (ok : Ok c) (hG : c.G = G) {d s lr sp lg : Nat} {T : Hp} {sf : SF} {rows : List Rn} {x : Sn} {ns : List Int} {sta rev kp since : Nat}
include ok hG
theorem after_loop {A n0 : Nat} (h1 : 1 ≤ A) (sz : rows.length < 50) (l : List Rn) : ∀ (pr : List Rn) (T : Hp) (loc : Loc), rows = pr ++ l → A ≠ lr → n0 ≤ A → T.get lr = some (.list (rows.map Rn.rf)) → (∀ y ∈ rows, RnAt T y) → T.get A = some (.list ((fl since pr).map Rn.rf)) → lk loc 8030035183836554867 = some (.int since) →
  CoP c (d + 1) loc T (.list (.loc 7893107)) A [7893107] lr .list pr.length (.cons (.cmp .gt (.sub (.loc 7893107) (.int 0)) (.loc 8030035183836554867)) .nil) fun T' => T'.get A = some (.list ((fl since rows).map Rn.rf)) ∧ Upd n0 All T T' := by
 induction l with
 | nil =>
  intro pr T loc hx ne hA hr rn ha h2
  rw [List.append_nil] at hx; subst hx
  exact Co_endP (turnL hr (get_end _ _)) ⟨ha, Upd.refl⟩
 | cons y l ih =>
  intro pr T loc hx ne hA hr rn ha h2
  have my : y ∈ rows := hx ▸ List.mem_append_right _ (.head _)
  have ry := (rn y my).h1
  have k1 : lk (pt loc 7893107 (.ref y.r)) 7893107 = some (.ref y.r) := by rw [lk_pt, if_pos rfl]
  have k2 : lk (pt loc 7893107 (.ref y.r)) 8030035183836554867 = some (.int since) := by rw [lk_pt, if_neg (by decide)]; exact h2
  have tn : Turn T lr pr.length (some (.ref y.r)) .list := turnL hr (by rw [hx]; exact get_mid _ _ _ _)
  have fs := fl_snoc (since := since) (l := pr) (y := y)
  have ih := fun T => ih (pr ++ [y]) T (pt loc 7893107 (.ref y.r)) (by rw [hx, List.append_assoc]; rfl) ne hA
  rw [List.length_append] at ih
  by_cases q : (since : Int) < y.rev
  ·rw [if_pos q] at fs
   refine Co_listP tn bind_one ?_
   apply Te_goP
   apply T_cmpP
   apply E_sub
   refine E_loc k1 ?_
   apply E_int
   refine k_it (I_tuple (j := 0) ry rfl (lb rfl)) ?_
   refine E_loc k2 ?_
   refine k_cm true (cmt C_gt (decide_eq_true q)) ?_
   apply k_ye
   apply Te_nilP
   apply k_ye
   refine E_loc k1 ?_
   apply k_ap
   exact ha
   rw [List.length_map]; exact lt4 (Nat.le_trans (List.length_filter_le _ _) (by rw [hx, List.length_append] at sz; omega : pr.length ≤ 50)) rfl
   first | assumption | exact Nat.le_add_left 1 _ | exact lb rfl
   obtain ⟨T', h9, g9, u9⟩ := ih _ (get_nf (Ne.symm ne) hr) (fun z mz => (rn z mz).upd (P := But A) (Upd.refl.set (fun _ k => k rfl) ha) fun w vs g => ne_kd ha g rfl) (by rw [fs, List.map_append]; exact get_put ha) k2
   exact ⟨T', h9, g9, (Upd.refl.put hA).trans u9⟩
  ·rw [if_neg q, List.append_nil] at fs
   refine Co_skipP tn bind_one ?_
   apply Te_stopP
   apply T_cmpP
   apply E_sub
   refine E_loc k1 ?_
   apply E_int
   refine k_it (I_tuple (j := 0) ry rfl (lb rfl)) ?_
   refine E_loc k2 ?_
   refine k_cm false (cmt C_gt (decide_eq_false q)) ?_
   apply k_ye
   apply k_ye
   exact ih T hr rn (by rw [fs]; exact ha) k2
theorem after_ok (hl : T.get lg = some (logOb lr sp sta)) (hr : T.get lr = some (.list (rows.map Rn.rf))) (rn : ∀ y ∈ rows, RnAt T y) (sz : rows.length < 50) (h : sta ≤ since) (hn : 1 ≤ T.n) : CaP c T 298 [.ref lg, .int since] (d + 2) fun v T' => v = .ref T.n ∧ T'.get T.n = some (.list ((fl since rows).map Rn.rf)) ∧ Upd T.n All T T' := by
 obtain ⟨T', h2, g2, u2⟩ := after_loop ok hG (d := d) (since := since) (A := T.n) (n0 := T.n) (lr := lr) (rows := rows) hn sz rows [] (hnew T (.list [])) (rm [k_dot0, 7893107] [(1735222900, .ref lg), (8030035183836554867, .int since)]) rfl (Nat.ne_of_gt (lt_of_get hr)) (Nat.le_refl _) (get_old hr) (fun y m => (rn y m).upd (P := All) Upd.refl.new fun _ _ _ => trivial) (get_new _ _) rfl
 refine C_funQ ok (l := [(1735222900, _), (8030035183836554867, _)]) (tF hG rfl) rfl fun Qz hQ => ?_
 apply X_consP
 apply S_if
 apply T_cmpP
 refine E_loc rfl ?_
 apply E_la ok
 exact rfl
 ·(with_reducible repeat' first|assumption|exact get_new _ _|apply get_put|apply get_old|refine get_nf (by assumption) ?_|apply get_kd|with_unfolding_all rfl)
 exact tA hG rfl
 exact rfl
 refine k_cm false (cmt C_lt (decide_eq_false (Int.not_lt.mpr (Int.ofNat_le.mpr h)))) ?_
 apply X_nilP
 apply X_consP
 apply S_ret
 apply E_listc
 apply E_la ok
 exact rfl
 ·(with_reducible repeat' first|assumption|exact get_new _ _|apply get_put|apply get_old|refine get_nf (by assumption) ?_|apply get_kd|with_unfolding_all rfl)
 exact tA hG rfl
 exact rfl
 refine k_ik (ikL hr) ?_
 refine k_co (h2) ?_
 apply hQ
 exact ⟨rfl, g2, Upd.refl.new.trans u2⟩
theorem after_no (hl : T.get lg = some (logOb lr sp sta)) (h : since < sta) : CaP c T 298 [.ref lg, .int since] (d + 2) fun v T' => v = .none ∧ T' = T := by
 refine C_funQ ok (l := [(1735222900, _), (8030035183836554867, _)]) (tF hG rfl) rfl fun Qz hQ => ?_
 apply X_consP
 apply S_if
 apply T_cmpP
 refine E_loc rfl ?_
 apply E_la ok
 exact rfl
 ·(with_reducible repeat' first|assumption|exact get_new _ _|apply get_put|apply get_old|refine get_nf (by assumption) ?_|apply get_kd|with_unfolding_all rfl)
 exact tA hG rfl
 exact rfl
 refine k_cm true (cmt C_lt (decide_eq_true (Int.ofNat_lt.mpr h))) ?_
 apply X_consP
 apply S_ret
 apply E_none
 apply hQ
 exact ⟨rfl, rfl⟩
theorem catch_loop {w lq : Nat} {n : Int} {ev : Nat} {rq : List Rn} (hrq : RowsOk since rq rev) (h15 : rev ≤ 12) (l : List Rn) : ∀ (pr : List Rn) (T : Hp) (loc : Loc) (ws : List Ew), rq = pr ++ l → B4 T s lr ns x sf sta rev kp rows → W1 T sf.wat w n 1 ((since + pr.length : Nat) : Int) ev ws → ws.map Ew.q = evL since pr.length → ev ≠ lr → lq ≠ ev → T.get lq = some (.list (rq.map Rn.rf)) → (∀ y ∈ rq, RnAt T y) → lk loc 1735222900 = some (.ref s) → lk loc 452656980600 = some (.ref w) →
  ∃ loc' T' ws', Lo c [8030035183836554867, 1818520181, 32763696029788516] lq .list pr.length cuB (d + 7) loc T (.nxt loc') T' ∧ B4 T' s lr ns x sf sta rev kp rows ∧ W1 T' sf.wat w n 1 rev ev ws' ∧ ws'.map Ew.q = evL since (rev - since) ∧ Upd T.n (fun r _ => r ≠ w ∧ r ≠ ev) T T' := by
 induction l with
 | nil =>
  intro pr T loc ws hx B W hws nev nlq hq rn k1 k2
  rw [List.append_nil] at hx; subst hx
  have := hrq.len
  have e1 : since + rq.length = rev := (Nat.add_comm _ _).trans this
  rw [e1] at W
  have e2 : rev - since = rq.length := by rw [← this, Nat.add_sub_cancel]
  exact ⟨loc, T, ws, L_end (turnL hq (get_end _ _)), B, W, by rw [e2]; exact hws, Upd.refl⟩
 | cons y l ih =>
  intro pr T loc ws hx B W hws nev nlq hq rn k1 k2
  have my : y ∈ rq := hx ▸ List.mem_append_right _ (.head _)
  have ry := rn y my
  have hy : rq[pr.length]? = some y := by rw [hx, List.getElem?_append_right (Nat.le_refl _), Nat.sub_self]; rfl
  obtain ⟨y1, y2, y3⟩ := hrq.at_ _ _ hy
  obtain ⟨z, hz⟩ := ry.h3.two
  rw [y2, y3] at hz
  obtain ⟨sp, dt, g, X⟩ := B.X
  have hs := X.hs
  have hw := W.hw
  have W' := W
  rw [← B.xn] at W'
  obtain ⟨_, T1, h1, r1, rfl, g1, l1, u1⟩ := seen_ok ok hG (d := d + 1) (bf := sf.tree) hs B.se (.head _) W'.hw hz (.inr ry.h2) X.tr (.tail _ (.head _)) rch3 (by rw [B.xu]; decide) B.pn
  have W1' := W.upd u1 trivial trivial trivial fun _ _ _ => trivial
  have lev : ev < T.n := lt_of_get W.he.h
  have lw : ws.length = pr.length := by
   have := congrArg List.length hws
   rw [List.length_map] at this
   rw [this]; unfold evL; rw [List.length_map, List.length_range]
  have lp : pr.length < 15 := by
   have := hrq.len
   rw [hx, List.length_append, List.length_cons] at this
   exact lp_of this h15
  obtain ⟨_, T2, h2, rfl, v, ev2, gw2, e2, u2⟩ := see_ok ok hG (d := d + 5) (rev := y.rev) W1'.hw W1'.pw (u1.get trivial hz) g1 W1'.he W1'.pe (Nat.ne_of_gt (Nat.lt_of_lt_of_le lev l1)) (by rw [y1]; exact Int.ofNat_lt.mpr (Nat.lt_succ_self _)) (by rw [lw]; exact lp)
  have B1 := B.new u1
  have B2 := B1.see W1' nev u2
  have u02 : Upd T.n (fun r _ => r ≠ w ∧ r ≠ ev) T T2 := u1.a.then u2 u1.1
  have W2 : W1 T2 sf.wat w n 1 ((since + (pr ++ [y]).length : Nat) : Int) ev (ws ++ [v]) := ⟨u2.get ⟨ne_kd W1'.hw W1'.hd rfl, ne_kd W1'.he.h W1'.hd rfl⟩ W1'.hd, by rw [List.length_append]; rw [y1] at gw2; exact gw2, W.pw, e2, W.pe⟩
  have kl : ∀ k, k ≠ 8030035183836554867 → k ≠ 1818520181 → k ≠ 32763696029788516 → lk (pt (pt (pt loc 8030035183836554867 (.int y.rev)) 1818520181 (.int y.tick)) 32763696029788516 (.ref y.cs)) k = lk loc k := fun k q1 q2 q3 => by rw [lk_pt, if_neg q3, lk_pt, if_neg q2, lk_pt, if_neg q1]
  have k3 := (kl 1735222900 (by decide) (by decide) (by decide)).trans k1
  have k4 := (kl 452656980600 (by decide) (by decide) (by decide)).trans k2
  obtain ⟨loc', T', ws', hw9, B9, W9, e9, u9⟩ := ih (pr ++ [y]) T2 _ (ws ++ [v]) (by rw [hx, List.append_assoc]; rfl) B2 W2 (by rw [List.map_append, hws, List.length_append]; show _ ++ [v.q] = evL since (pr.length + 1); rw [evL_succ, ev2, y1]) nev nlq (u02.get ⟨ne_kd hw hq rfl, nlq⟩ hq) (fun q mq => (rn q mq).upd u02 fun _ _ g => ⟨ne_kd hw g rfl, ne_kd W.he.h g rfl⟩) k3 k4
  rw [List.length_append] at hw9
  have hw1 := W1'.hw
  have k5 : lk (pt (pt (pt loc 8030035183836554867 (.int y.rev)) 1818520181 (.int y.tick)) 32763696029788516 (.ref y.cs)) 8030035183836554867 = some (.int y.rev) := by rw [lk_pt, if_neg (by decide), lk_pt, if_neg (by decide), lk_pt, if_pos rfl]
  have k6 : lk (pt (pt (pt loc 8030035183836554867 (.int y.rev)) 1818520181 (.int y.tick)) 32763696029788516 (.ref y.cs)) 32763696029788516 = some (.ref y.cs) := by rw [lk_pt, if_pos rfl]
  have : ExP c (d + 7) (pt (pt (pt loc 8030035183836554867 (.int y.rev)) 1818520181 (.int y.tick)) 32763696029788516 (.ref y.cs)) T cuB (fun l T3 => l = pt (pt (pt loc 8030035183836554867 (.int y.rev)) 1818520181 (.int y.tick)) 32763696029788516 (.ref y.cs) ∧ T3 = T2) (fun _ _ => False) := by
   apply X_consP
   apply S_expr
   apply E_lm ok
   exact k4
   exact hw
   exact tM hG rfl
   exact rfl
   refine Es_loc k5 ?_
   apply Es_cons
   apply E_lm ok
   exact k3
   exact hs
   exact tM hG rfl
   exact rfl
   refine Es_loc k4 ?_
   refine Es_loc k6 ?_
   apply Es_cons
   apply E_la ok
   exact k3
   exact hs
   exact tA hG rfl
   exact rfl
   apply Es_nil
   refine k_ca (h1) ?_
   apply Es_nil
   refine k_ca (h2) ?_
   apply X_nilP
   exact ⟨rfl, rfl⟩
  obtain ⟨_, _, hb, rfl, rfl⟩ | ⟨_, _, _, f⟩ := this
  ·exact ⟨loc', T', ws', L_next (turnL hq (by rw [hx]; exact get_mid _ _ _ _)) (.inr ⟨lb rfl, _, _, rfl, .inl ry.h1, rfl⟩) hb hw9, B9, W9, e9, u02.then u9 u02.1⟩
  ·exact f.elim
end
noncomputable def exL (since sta rev : Nat) : List (Int × List Nat) := if since < sta then [((rev : Int), [97, 110, 101, 119])] else evL since (rev - since)
section
variable {c : Cx} (ok : Ok c) (hG : c.G = G) {d s lr sp lg : Nat} {T : Hp} {sf : SF} {rows : List Rn} {x : Sn} {ns : List Int} {sta rev kp since : Nat}
include ok hG
theorem catch_ok {w ev : Nat} {n : Int} (B : B4 T s lr ns x sf sta rev kp rows) (W : W1 T sf.wat w n 1 since ev []) (nev : ev ≠ lr) (h12 : rev ≤ 12) (hsr : since ≤ rev) : CaP c T 689 [.ref s, .ref w] (d + 8) fun v T' => B4 T' s lr ns x sf sta rev kp rows ∧ ∃ ev' ws, W1 T' sf.wat w n 1 rev ev' ws ∧ ev' ≠ lr ∧ ws.map Ew.q = exL since sta rev := by
 obtain ⟨sp, dt, g, X⟩ := B.X
 have hs := X.hs
 have hl := X.hl
 have hw := W.hw
 have rl := B.rl
 have k4 := B.k4
 unfold exL
 by_cases h : since < sta
 ·obtain ⟨_, T1, h1, rfl, e1⟩ := after_no ok hG (d := d + 5) hl h
  rw [e1] at h1
  obtain ⟨_, T2, h2, rfl, v, ev', e2, g2, ev2, l2, u2⟩ := anew_ok ok hG (d := d + 6) (rev := sf.rev) hw W.pw
  rw [B.er] at g2 e2
  have u2' : Upd T.n (fun r _ => r ≠ w ∧ r ≠ ev) T T2 := u2.weak (Nat.le_refl _) fun _ _ p => p.1
  refine C_funL ok (l := [(1735222900, _), (452656980600, _)]) (tF hG rfl) rfl fun lz hz Qz hQ => ?_
  have hz0 := hz 1735222900 _ rfl
  have hz1 := hz 452656980600 _ rfl
  clear hz
  apply X_consP
  apply S_asg
  apply E_meth ok
  apply E_la ok
  exact (by with_reducible repeat' first|assumption|exact lk_same|apply lk_else|apply lk_drop|with_unfolding_all rfl)
  ·(with_reducible repeat' first|assumption|exact get_new _ _|apply get_put|apply get_old|refine get_nf (by assumption) ?_|apply get_kd|with_unfolding_all rfl)
  exact tA hG rfl
  exact rfl
  apply k_mt2
  ·(with_reducible repeat' first|assumption|exact get_new _ _|apply get_put|apply get_old|refine get_nf (by assumption) ?_|apply get_kd|with_unfolding_all rfl)
  exact tM hG rfl
  exact rfl
  apply Es_cons
  apply E_la ok
  exact (by with_reducible repeat' first|assumption|exact lk_same|apply lk_else|apply lk_drop|with_unfolding_all rfl)
  ·(with_reducible repeat' first|assumption|exact get_new _ _|apply get_put|apply get_old|refine get_nf (by assumption) ?_|apply get_kd|with_unfolding_all rfl)
  exact tA hG rfl
  exact rfl
  apply Es_nil
  refine k_ca (h1) ?_
  apply X_consP
  apply S_if
  apply T_cmpP
  refine E_loc (by with_reducible repeat' first|assumption|exact lk_same|apply lk_else|apply lk_drop|with_unfolding_all rfl) ?_
  apply E_none
  refine k_cm true (by first | exact C_is0 | exact C_is1 rfl | exact C_isT) ?_
  apply X_consP
  apply S_expr
  apply E_lm ok
  exact (by with_reducible repeat' first|assumption|exact lk_same|apply lk_else|apply lk_drop|with_unfolding_all rfl)
  ·(with_reducible repeat' first|assumption|exact get_new _ _|apply get_put|apply get_old|refine get_nf (by assumption) ?_|apply get_kd|with_unfolding_all rfl)
  exact tM hG rfl
  exact rfl
  apply Es_cons
  apply E_la ok
  exact (by with_reducible repeat' first|assumption|exact lk_same|apply lk_else|apply lk_drop|with_unfolding_all rfl)
  ·(with_reducible repeat' first|assumption|exact get_new _ _|apply get_put|apply get_old|refine get_nf (by assumption) ?_|apply get_kd|with_unfolding_all rfl)
  exact tA hG rfl
  exact rfl
  apply Es_nil
  refine k_ca (h2) ?_
  apply X_consP
  apply S_ret0
  apply hQ
  rw [if_pos h]
  refine ⟨B.see W nev u2', ev', [v], ⟨u2.get (ne_kd hw W.hd rfl) W.hd, g2, W.pw, ev2, Nat.le_trans B.pn l2⟩, Nat.ne_of_gt (Nat.lt_of_lt_of_le (lt_of_get X.hr) l2), ?_⟩
  show [v.q] = _
  rw [e2]
 ·have h := Nat.le_of_not_lt h
  obtain ⟨_, T1, h1, rfl, g1, u1⟩ := after_ok ok hG (d := d + 5) hl X.hr X.rn (Nat.lt_of_le_of_lt (Nat.le_trans rl k4) (lb rfl)) h B.pn
  have rn1 : ∀ y ∈ fl since rows, RnAt T1 y := fun y m => (X.rn y (List.mem_filter.mp m).1).upd u1 fun _ _ _ => trivial
  obtain ⟨loc', T2, ws, h2, B2, W2, e2, u2⟩ := catch_loop ok hG (d := d) (w := w) (lq := T.n) (n := n) (ev := ev) (s := s) (lr := lr) (fl_ok B.rw h hsr) h12 (fl since rows) [] T1 [(1735222900, .ref s), (452656980600, .ref w), (1954050163, .ref T.n)] [] rfl (B.new u1) (W.upd u1 trivial trivial trivial fun _ _ _ => trivial) rfl nev (Nat.ne_of_gt (lt_of_get W.he.h)) g1 rn1 rfl rfl
  refine C_funQ ok (l := [(1735222900, _), (452656980600, _)]) (tF hG rfl) rfl fun Qz hQ => ?_
  apply X_consP
  apply S_asg
  apply E_meth ok
  apply E_la ok
  exact rfl
  ·(with_reducible repeat' first|assumption|exact get_new _ _|apply get_put|apply get_old|refine get_nf (by assumption) ?_|apply get_kd|with_unfolding_all rfl)
  exact tA hG rfl
  exact rfl
  apply k_mt2
  ·(with_reducible repeat' first|assumption|exact get_new _ _|apply get_put|apply get_old|refine get_nf (by assumption) ?_|apply get_kd|with_unfolding_all rfl)
  exact tM hG rfl
  exact rfl
  apply Es_cons
  apply E_la ok
  exact rfl
  ·(with_reducible repeat' first|assumption|exact get_new _ _|apply get_put|apply get_old|refine get_nf (by assumption) ?_|apply get_kd|with_unfolding_all rfl)
  exact tA hG rfl
  exact rfl
  apply Es_nil
  refine k_ca (h1) ?_
  apply X_consP
  apply S_if
  apply T_cmpP
  refine E_loc rfl ?_
  apply E_none
  refine k_cm false (by first | exact C_is0 | exact C_is1 rfl | exact C_isT) ?_
  apply X_nilP
  apply X_consP
  apply S_for
  refine E_loc rfl ?_
  refine k_ik (ikL g1) ?_
  refine k_lo (h2) ?_
  apply X_nilP
  apply hQ
  rw [if_neg (Nat.not_lt_of_le h)]
  exact ⟨B2, ev, ws, W2, nev, e2⟩
theorem watch_ok (B : B4 T s lr ns x sf sta rev kp rows) (hwt : T.get sf.wat = some (.dict [] 0)) (pw : 1 ≤ sf.wat) (h12 : rev ≤ 12) (hsr : since ≤ rev) : CaP c T 682 [.ref s, .int 1, .str pa, .str [101, 110, 116, 114, 121], .bool true, .int since] (d + 9) fun v T' => ∃ n sf' w ev ws, v = .int n ∧ B4 T' s lr ns x sf' sta rev kp rows ∧ W1 T' sf'.wat w n 1 rev ev ws ∧ ev ≠ lr ∧ ws.map Ew.q = exL since sta rev := by
 obtain ⟨sp, dt, g, X⟩ := B.X
 obtain ⟨px, hh, gx⟩ := B.se.he x (.head _)
 have hs := X.hs
 have ps := X.ps
 have h1 := session_ok ok hG (d := d + 7) hs B.se.hd (.head _) B.se.nd gx px
 rw [B.xn] at h1
 have u1 : Upd T.n (But x.r) T (hput T x.r (x.ob sf.tick)) := Upd.refl.set (fun _ k => k rfl) gx
 have X1 := X.but gx u1
 have hs1 := X1.hs
 obtain ⟨_, T2, h2, rfl, u2⟩ := need_ok ok hG (d := d + 7) (T := hput T x.r (x.ob sf.tick)) (okP_of pa_facts.1)
 obtain ⟨_, T3, h3, rfl, u3⟩ := need_right_ok ok hG (d := d + 2) (u := x.u) (X1.tr.all u2) rch3 (by rw [B.xu]; decide) (x := 114) rfl
 have u23 := u2.then u3 u2.1
 have n3 : 1 ≤ T3.n := Nat.le_trans B.pn u23.1
 obtain ⟨_, T4, h4, rfl, ev, gw4, ge4, lev, u4⟩ := watch_init ok hG (d := d + 6) (n := sf.cnt + 1) (ses := 1) (since := since) n3
 have u34 := u23.then u4 u23.1
 have X4 := X1.new u34
 have hs3 := u23.get trivial hs1
 have hs4 := X4.hs
 have gx4 : T4.get x.r = some (x.ob sf.tick) := u34.get trivial (get_put gx)
 have u04 : Upd T.n (But x.r) T T4 := u1.then u34.a (Nat.le_refl _)
 have se4 := B.se.but gx gx4 u04
 have wt4 : T4.get sf.wat = some (.dict [] 0) := u04.get (ne_kd gx hwt rfl) hwt
 have h5 := number_ok ok hG (d := d + 7) hs4 ps
 have wt5 : (hput T4 s (SF.ob { sf with cnt := sf.cnt + 1 })).get sf.wat = some (.dict [] 0) := get_kd hs4 wt4 rfl
 have gw5 : (hput T4 s (SF.ob { sf with cnt := sf.cnt + 1 })).get T3.n = some (wtOb (sf.cnt + 1) 1 since ev) := get_kd hs4 gw4 rfl
 have uf : Upd T4.n (fun r _ => r ≠ s ∧ r ≠ sf.wat) T4 (hput (hput T4 s (SF.ob { sf with cnt := sf.cnt + 1 })) sf.wat (.dict [(.int (sf.cnt + 1), .ref T3.n)] 1)) := ((Upd.refl.set (fun _ k => k.1 rfl) hs4).set (fun _ k => k.2 rfl) wt4)
 have nsw : sf.ses ≠ sf.wat := fun e => by have := se4.hd; rw [e, wt4] at this; injection this with q; injection q with q; cases q
 have n4 : 1 ≤ T4.n := Nat.le_trans n3 u4.1
 have X6 : St4 (hput (hput T4 s (SF.ob { sf with cnt := sf.cnt + 1 })) sf.wat (.dict [(.int (sf.cnt + 1), .ref T3.n)] 1)) s lr sp { sf with cnt := sf.cnt + 1 } sta rows (es3 dt ((rev : Int) - 1) g) := ⟨get_kd wt5 (get_put hs4) rfl, ps, uf.get ⟨ne_kd hs4 X4.hl rfl, ne_kd wt4 X4.hl rfl⟩ X4.hl, X.pg, uf.get ⟨ne_kd hs4 X4.hr rfl, ne_kd wt4 X4.hr rfl⟩ X4.hr, X.pl, fun y m => (X4.rn y m).upd uf fun _ _ g => ⟨ne_kd hs4 g rfl, ne_kd wt4 g rfl⟩, X4.tr.keep2 (ss := []) (List.cons_ne_nil _ _) hs4 wt4 uf, X.lst, X.rle, X.sle⟩
 have B6 : B4 (hput (hput T4 s (SF.ob { sf with cnt := sf.cnt + 1 })) sf.wat (.dict [(.int (sf.cnt + 1), .ref T3.n)] 1)) s lr ns x { sf with cnt := sf.cnt + 1 } sta rev kp rows := ⟨⟨sp, dt, g, X6⟩, B.rw, B.er, B.ek, ⟨uf.get ⟨ne_kd hs4 se4.hd rfl, nsw⟩ se4.hd, fun y m => ⟨(se4.he y m).1, let ⟨h, g⟩ := (se4.he y m).2; ⟨h, uf.get ⟨ne_kd hs4 g rfl, ne_kd wt4 g rfl⟩ g⟩⟩, se4.nd⟩, B.xu, B.xn, uf.get ⟨Nat.ne_of_lt ps, Nat.ne_of_lt pw⟩ (u04.get (Nat.ne_of_lt px) B.scr), n4, B.rl, B.k4⟩
 have W6 : W1 (hput (hput T4 s (SF.ob { sf with cnt := sf.cnt + 1 })) sf.wat (.dict [(.int (sf.cnt + 1), .ref T3.n)] 1)) sf.wat T3.n (sf.cnt + 1) 1 since ev [] := ⟨get_put wt5, get_kd wt5 gw5 rfl, n3, ⟨uf.get ⟨ne_kd hs4 ge4 rfl, ne_kd wt4 ge4 rfl⟩ ge4, fun y m => (by cases m)⟩, Nat.le_trans n3 lev⟩
 have ner : ev ≠ lr := Nat.ne_of_gt (Nat.lt_of_lt_of_le (lt_of_get (u23.get trivial X1.hr)) lev)
 obtain ⟨v7, T7, h7, B7, ev', ws, W7, ne7, e7⟩ := catch_ok ok hG (d := d) B6 W6 ner h12 hsr
 have hw7 := W7.hw
 have hs6 := X6.hs
 have le0 : (0 : Int) ≤ since := Int.natCast_nonneg _
 have le1 : (since : Int) ≤ sf.rev := by rw [B.er]; exact Int.ofNat_le.mpr hsr
 refine C_funL ok (l := [(1735222900, _), (126883592042095, _), (1769300593, _), (1701800556, _), (500269479284, _), (439771687540, _)]) (tF hG rfl) rfl fun lz hz Qz hQ => ?_
 have hz0 := hz 1735222900 _ rfl
 have hz1 := hz 126883592042095 _ rfl
 have hz2 := hz 1769300593 _ rfl
 have hz3 := hz 1701800556 _ rfl
 have hz4 := hz 500269479284 _ rfl
 have hz5 := hz 439771687540 _ rfl
 clear hz
 apply X_consP
 apply S_asg
 apply E_attr ok
 apply E_lm ok
 exact (by with_reducible repeat' first|assumption|exact lk_same|apply lk_else|apply lk_drop|with_unfolding_all rfl)
 ·(with_reducible repeat' first|assumption|exact get_new _ _|apply get_put|apply get_old|refine get_nf (by assumption) ?_|apply get_kd|with_unfolding_all rfl)
 exact tM hG rfl
 exact rfl
 refine Es_loc (by with_reducible repeat' first|assumption|exact lk_same|apply lk_else|apply lk_drop|with_unfolding_all rfl) ?_
 apply Es_nil
 refine k_ca (h1) ?_
 apply k_at2
 ·(with_reducible repeat' first|assumption|exact get_new _ _|apply get_put|apply get_old|refine get_nf (by assumption) ?_|apply get_kd|with_unfolding_all rfl)
 exact tA hG rfl
 exact rfl
 apply X_consP
 apply S_expr
 refine E_callF ok (tG hG rfl) (tF hG rfl) ?_
 apply Es_cons
 apply E_la ok
 exact (by with_reducible repeat' first|assumption|exact lk_same|apply lk_else|apply lk_drop|with_unfolding_all rfl)
 ·(with_reducible repeat' first|assumption|exact get_new _ _|apply get_put|apply get_old|refine get_nf (by assumption) ?_|apply get_kd|with_unfolding_all rfl)
 exact tA hG rfl
 exact rfl
 apply Es_cons
 refine E_callF ok (tG hG rfl) (tF hG rfl) ?_
 refine Es_loc (by with_reducible repeat' first|assumption|exact lk_same|apply lk_else|apply lk_drop|with_unfolding_all rfl) ?_
 apply Es_nil
 refine k_ca (h2) ?_
 refine Es_loc (by with_reducible repeat' first|assumption|exact lk_same|apply lk_else|apply lk_drop|with_unfolding_all rfl) ?_
 apply Es_cons
 apply E_str
 apply Es_nil
 refine k_ca (h3) ?_
 apply X_consP
 apply S_asg
 apply E_la ok
 exact (by with_reducible repeat' first|assumption|exact lk_same|apply lk_else|apply lk_drop|with_unfolding_all rfl)
 ·(with_reducible repeat' first|assumption|exact get_new _ _|apply get_put|apply get_old|refine get_nf (by assumption) ?_|apply get_kd|with_unfolding_all rfl)
 exact tA hG rfl
 exact rfl
 apply X_consP
 apply S_if
 apply T_cmpP
 refine E_loc (by with_reducible repeat' first|assumption|exact lk_same|apply lk_else|apply lk_drop|with_unfolding_all rfl) ?_
 apply E_none
 refine k_cm true (C_isnt1 rfl) ?_
 apply X_consP
 apply S_if
 apply T_orP
 apply Ts_goP
 apply T_cmpP
 refine E_callB ok (tG hG rfl) (by first | exact .inl ⟨_, rfl⟩ | exact .inr ⟨_, rfl⟩) ?_
 refine Es_loc (by with_reducible repeat' first|assumption|exact lk_same|apply lk_else|apply lk_drop|with_unfolding_all rfl) ?_
 apply Es_nil
 refine k_bc (by first|exact B_typeS|exact B_typeI|exact B_typeT (by (with_reducible repeat' first|assumption|exact get_new _ _|apply get_put|apply get_old|refine get_nf (by assumption) ?_|apply get_kd|with_unfolding_all rfl))) ?_
 refine E_glb ok (tG hG rfl) ?_
 refine k_cm false (by first | exact C_isnt0 | exact C_isnt1 rfl | exact C_isntT) ?_
 apply k_ye
 apply Ts_goP
 apply T_notP
 apply T_cmp2P
 apply E_int
 refine E_loc (by with_reducible repeat' first|assumption|exact lk_same|apply lk_else|apply lk_drop|with_unfolding_all rfl) ?_
 refine k_cm true (cmt C_le (decide_eq_true le0)) ?_
 apply k_ye
 apply E_la ok
 exact (by with_reducible repeat' first|assumption|exact lk_same|apply lk_else|apply lk_drop|with_unfolding_all rfl)
 ·(with_reducible repeat' first|assumption|exact get_new _ _|apply get_put|apply get_old|refine get_nf (by assumption) ?_|apply get_kd|with_unfolding_all rfl)
 exact tA hG rfl
 exact rfl
 refine k_cm true (cmt C_le (decide_eq_true le1)) ?_
 apply k_ye
 apply Ts_nilP
 apply X_nilP
 apply X_consP
 apply S_asg
 refine E_loc (by with_reducible repeat' first|assumption|exact lk_same|apply lk_else|apply lk_drop|with_unfolding_all rfl) ?_
 apply X_nilP
 apply X_consP
 apply S_asg
 refine E_new ok (tG hG rfl) (tC hG rfl) rfl ?_
 apply Es_cons
 apply E_bin
 apply E_la ok
 exact (by with_reducible repeat' first|assumption|exact lk_same|apply lk_else|apply lk_drop|with_unfolding_all rfl)
 ·(with_reducible repeat' first|assumption|exact get_new _ _|apply get_put|apply get_old|refine get_nf (by assumption) ?_|apply get_kd|with_unfolding_all rfl)
 exact tA hG rfl
 exact rfl
 apply E_int
 refine k_bi (B_addI) ?_
 refine Es_loc (by with_reducible repeat' first|assumption|exact lk_same|apply lk_else|apply lk_drop|with_unfolding_all rfl) ?_
 refine Es_loc (by with_reducible repeat' first|assumption|exact lk_same|apply lk_else|apply lk_drop|with_unfolding_all rfl) ?_
 refine Es_loc (by with_reducible repeat' first|assumption|exact lk_same|apply lk_else|apply lk_drop|with_unfolding_all rfl) ?_
 refine Es_loc (by with_reducible repeat' first|assumption|exact lk_same|apply lk_else|apply lk_drop|with_unfolding_all rfl) ?_
 refine Es_loc (by with_reducible repeat' first|assumption|exact lk_same|apply lk_else|apply lk_drop|with_unfolding_all rfl) ?_
 apply Es_nil
 refine k_ca (h4) ?_
 apply k_no
 apply X_consP
 apply S_asgS
 refine E_loc (by with_reducible repeat' first|assumption|exact lk_same|apply lk_else|apply lk_drop|with_unfolding_all rfl) ?_
 apply E_la ok
 exact (by with_reducible repeat' first|assumption|exact lk_same|apply lk_else|apply lk_drop|with_unfolding_all rfl)
 ·(with_reducible repeat' first|assumption|exact get_new _ _|apply get_put|apply get_old|refine get_nf (by assumption) ?_|apply get_kd|with_unfolding_all rfl)
 exact tA hG rfl
 exact rfl
 apply E_lm ok
 exact (by with_reducible repeat' first|assumption|exact lk_same|apply lk_else|apply lk_drop|with_unfolding_all rfl)
 ·(with_reducible repeat' first|assumption|exact get_new _ _|apply get_put|apply get_old|refine get_nf (by assumption) ?_|apply get_kd|with_unfolding_all rfl)
 exact tM hG rfl
 exact rfl
 apply Es_nil
 refine k_ca (h5) ?_
 apply k_dp
 exact wt5
 exact rfl
 exact lb rfl
 exact pw
 apply X_consP
 apply S_if
 apply T_cmpP
 refine E_loc (by with_reducible repeat' first|assumption|exact lk_same|apply lk_else|apply lk_drop|with_unfolding_all rfl) ?_
 apply E_none
 refine k_cm true (C_isnt1 rfl) ?_
 apply X_consP
 apply S_expr
 apply E_lm ok
 exact (by with_reducible repeat' first|assumption|exact lk_same|apply lk_else|apply lk_drop|with_unfolding_all rfl)
 exact hs6
 exact tM hG rfl
 exact rfl
 refine Es_loc (by with_reducible repeat' first|assumption|exact lk_same|apply lk_else|apply lk_drop|with_unfolding_all rfl) ?_
 apply Es_nil
 refine k_ca (h7) ?_
 apply X_nilP
 apply X_consP
 apply S_ret
 apply E_la ok
 exact (by with_reducible repeat' first|assumption|exact lk_same|apply lk_else|apply lk_drop|with_unfolding_all rfl)
 exact hw7
 exact tA hG rfl
 exact rfl
 apply hQ
 exact ⟨_, _, _, ev', ws, rfl, B7, W7, ne7, e7⟩
theorem take_ok {w ev : Nat} {n ses last : Int} (hw : T.get w = some (wtOb n ses last ev)) (pw : 1 ≤ w) : Ca c 435 [.ref w] (d + 1) T (.ref ev) (hput (hnew T (.list [])) w (wtOb n ses last T.n)) := by
 have : CaP c T 435 [.ref w] (d + 1) fun v T' => v = .ref ev ∧ T' = hput (hnew T (.list [])) w (wtOb n ses last T.n) := by
  refine C_funQ ok (l := [(1735222900, _)]) (tF hG rfl) rfl fun Qz hQ => ?_
  apply X_consP
  apply S_asg
  apply E_la ok
  exact rfl
  ·(with_reducible repeat' first|assumption|exact get_new _ _|apply get_put|apply get_old|refine get_nf (by assumption) ?_|apply get_kd|with_unfolding_all rfl)
  exact tA hG rfl
  exact rfl
  apply X_consP
  apply S_asgL ok
  apply E_list
  apply Es_nil
  refine k_sh (lb rfl) ?_
  apply k_al
  exact rfl
  ·(with_reducible repeat' first|assumption|exact get_new _ _|apply get_put|apply get_old|refine get_nf (by assumption) ?_|apply get_kd|with_unfolding_all rfl)
  exact tA hG rfl
  exact lb rfl
  first | assumption | exact Nat.le_add_left 1 _ | exact lb rfl
  apply X_consP
  apply S_ret
  refine E_loc rfl ?_
  apply hQ
  exact ⟨rfl, rfl⟩
 obtain ⟨_, _, h, rfl, rfl⟩ := this
 exact h
theorem done_ok {w ev : Nat} {n ses last : Int} (hw : T.get w = some (wtOb n ses last ev)) : Ca c 442 [.ref w] (d + 1) T (.bool false) T := by
 have : CaP c T 442 [.ref w] (d + 1) fun v T' => v = .bool false ∧ T' = T := by
  refine C_funQ ok (l := [(1735222900, _)]) (tF hG rfl) rfl fun Qz hQ => ?_
  apply X_consP
  apply S_ret
  apply E_and
  apply Bo_stopP
  apply E_la ok
  exact rfl
  ·(with_reducible repeat' first|assumption|exact get_new _ _|apply get_put|apply get_old|refine get_nf (by assumption) ?_|apply get_kd|with_unfolding_all rfl)
  exact tA hG rfl
  exact rfl
  apply k_bl
  apply k_ye
  apply hQ
  exact ⟨rfl, rfl⟩
 obtain ⟨_, _, h, rfl, rfl⟩ := this
 exact h
theorem events_ok {w ev : Nat} {n last : Int} {ws : List Ew} (B : B4 T s lr ns x sf sta rev kp rows) (W : W1 T sf.wat w n 1 last ev ws) : CaP c T 696 [.ref s, .int 1, .int n] (d + 2) fun v T' => v = .ref ev ∧ Upd T.n (fun r _ => r ≠ x.r ∧ r ≠ w) T T' := by
 obtain ⟨sp, dt, g, X⟩ := B.X
 obtain ⟨px, hh, gx⟩ := B.se.he x (.head _)
 have hs := X.hs
 have h1 := session_ok ok hG (d := d) hs B.se.hd (.head _) B.se.nd gx px
 rw [B.xn] at h1
 have u1 : Upd T.n (But x.r) T (hput T x.r (x.ob sf.tick)) := Upd.refl.set (fun _ k => k rfl) gx
 have hs1 : (hput T x.r (x.ob sf.tick)).get s = some sf.ob := get_kd gx hs rfl
 have hd1 : (hput T x.r (x.ob sf.tick)).get sf.wat = some (.dict [(.int n, .ref w)] 1) := get_kd gx W.hd rfl
 have hw1 : (hput T x.r (x.ob sf.tick)).get w = some (wtOb n 1 last ev) := get_kd gx W.hw rfl
 have h2 := take_ok ok hG (d := d) hw1 W.pw
 have hw2 : (hput (hnew (hput T x.r (x.ob sf.tick)) (.list [])) w (wtOb n 1 last (hput T x.r (x.ob sf.tick)).n)).get w = some (wtOb n 1 last (hput T x.r (x.ob sf.tick)).n) := get_put (get_old hw1)
 have hd2 : (hput (hnew (hput T x.r (x.ob sf.tick)) (.list [])) w (wtOb n 1 last (hput T x.r (x.ob sf.tick)).n)).get sf.wat = some (.dict [(.int n, .ref w)] 1) := get_kd (get_old hw1) (get_old hd1) rfl
 have hs2 : (hput (hnew (hput T x.r (x.ob sf.tick)) (.list [])) w (wtOb n 1 last (hput T x.r (x.ob sf.tick)).n)).get s = some sf.ob := get_kd (get_old hw1) (get_old hs1) rfl
 have h3 := done_ok ok hG (d := d) hw2
 have dn : dlk (.int n) [((.int n : AV), (.ref w : AV))] = some (.ref w) := if_pos (decide_eq_true rfl)
 refine C_funL ok (l := [(1735222900, _), (126883592042095, _), (452656980600, _)]) (tF hG rfl) rfl fun lz hz Qz hQ => ?_
 have hz0 := hz 1735222900 _ rfl
 have hz1 := hz 126883592042095 _ rfl
 have hz2 := hz 452656980600 _ rfl
 clear hz
 apply X_consP
 apply S_expr
 apply E_lm ok
 exact (by with_reducible repeat' first|assumption|exact lk_same|apply lk_else|apply lk_drop|with_unfolding_all rfl)
 ·(with_reducible repeat' first|assumption|exact get_new _ _|apply get_put|apply get_old|refine get_nf (by assumption) ?_|apply get_kd|with_unfolding_all rfl)
 exact tM hG rfl
 exact rfl
 refine Es_loc (by with_reducible repeat' first|assumption|exact lk_same|apply lk_else|apply lk_drop|with_unfolding_all rfl) ?_
 apply Es_nil
 refine k_ca (h1) ?_
 apply X_consP
 apply S_if
 apply T_orP
 apply Ts_goP
 apply T_cmpP
 refine E_callB ok (tG hG rfl) (by first | exact .inl ⟨_, rfl⟩ | exact .inr ⟨_, rfl⟩) ?_
 refine Es_loc (by with_reducible repeat' first|assumption|exact lk_same|apply lk_else|apply lk_drop|with_unfolding_all rfl) ?_
 apply Es_nil
 refine k_bc (by first|exact B_typeS|exact B_typeI|exact B_typeT (by (with_reducible repeat' first|assumption|exact get_new _ _|apply get_put|apply get_old|refine get_nf (by assumption) ?_|apply get_kd|with_unfolding_all rfl))) ?_
 refine E_glb ok (tG hG rfl) ?_
 refine k_cm false (by first | exact C_isnt0 | exact C_isnt1 rfl | exact C_isntT) ?_
 apply k_ye
 apply Ts_goP
 apply T_cmpP
 refine E_loc (by with_reducible repeat' first|assumption|exact lk_same|apply lk_else|apply lk_drop|with_unfolding_all rfl) ?_
 apply E_la ok
 exact (by with_reducible repeat' first|assumption|exact lk_same|apply lk_else|apply lk_drop|with_unfolding_all rfl)
 ·(with_reducible repeat' first|assumption|exact get_new _ _|apply get_put|apply get_old|refine get_nf (by assumption) ?_|apply get_kd|with_unfolding_all rfl)
 exact tA hG rfl
 exact rfl
 refine k_cm false (cmt (C_ninD hd1 rfl) (by rw [dn]; rfl)) ?_
 apply k_ye
 apply Ts_goP
 apply T_cmpP
 apply E_attr ok
 apply E_sub
 apply E_la ok
 exact (by with_reducible repeat' first|assumption|exact lk_same|apply lk_else|apply lk_drop|with_unfolding_all rfl)
 ·(with_reducible repeat' first|assumption|exact get_new _ _|apply get_put|apply get_old|refine get_nf (by assumption) ?_|apply get_kd|with_unfolding_all rfl)
 exact tA hG rfl
 exact rfl
 refine E_loc (by with_reducible repeat' first|assumption|exact lk_same|apply lk_else|apply lk_drop|with_unfolding_all rfl) ?_
 refine k_it (I_dict hd1 rfl dn) ?_
 apply k_at2
 exact hw1
 exact tA hG rfl
 exact rfl
 refine E_loc (by with_reducible repeat' first|assumption|exact lk_same|apply lk_else|apply lk_drop|with_unfolding_all rfl) ?_
 refine k_cm false (C_ne (t := true) rfl) ?_
 apply k_ye
 apply Ts_nilP
 apply X_nilP
 apply X_consP
 apply S_asg
 apply E_meth ok
 apply E_sub
 apply E_la ok
 exact (by with_reducible repeat' first|assumption|exact lk_same|apply lk_else|apply lk_drop|with_unfolding_all rfl)
 exact hs1
 exact tA hG rfl
 exact rfl
 refine E_loc (by with_reducible repeat' first|assumption|exact lk_same|apply lk_else|apply lk_drop|with_unfolding_all rfl) ?_
 refine k_it (I_dict hd1 rfl dn) ?_
 apply k_mt2
 exact hw1
 exact tM hG rfl
 exact rfl
 apply Es_nil
 refine k_ca (h2) ?_
 apply X_consP
 apply S_if
 refine T_plainP rfl ?_
 apply E_meth ok
 apply E_sub
 apply E_la ok
 exact (by with_reducible repeat' first|assumption|exact lk_same|apply lk_else|apply lk_drop|with_unfolding_all rfl)
 exact hs2
 exact tA hG rfl
 exact rfl
 refine E_loc (by with_reducible repeat' first|assumption|exact lk_same|apply lk_else|apply lk_drop|with_unfolding_all rfl) ?_
 refine k_it (I_dict hd2 rfl dn) ?_
 apply k_mt2
 exact hw2
 exact tM hG rfl
 exact rfl
 apply Es_nil
 refine k_ca (h3) ?_
 apply k_bl
 apply X_nilP
 apply X_consP
 apply S_ret
 refine E_loc (by with_reducible repeat' first|assumption|exact lk_same|apply lk_else|apply lk_drop|with_unfolding_all rfl) ?_
 apply hQ
 exact ⟨rfl, (u1.weak (Nat.le_refl _) fun _ _ p => p.1).new.set (fun _ k => k.2 rfl) W.hw⟩
variable (xo : ExOk c 48 48)
include xo
theorem watch_x (B : B4 T s lr ns x sf sta rev kp rows) (hsr : rev < since) : XCaP c T 682 [.ref s, .int 1, .str pa, .str [101, 110, 116, 114, 121], .bool true, .int since] (d + 9) fun r T' => T'.get r = some (.exc 48 [(kWord, .str [110, 111, 32, 115, 117, 99, 104, 32, 114, 101, 118, 105, 115, 105, 111, 110]), (kPlace, .int since)]) ∧ T'.get s = some sf.ob := by
 obtain ⟨sp, dt, g, X⟩ := B.X
 obtain ⟨px, hh, gx⟩ := B.se.he x (.head _)
 have hs := X.hs
 have h1 := session_ok ok hG (d := d + 7) hs B.se.hd (.head _) B.se.nd gx px
 rw [B.xn] at h1
 have u1 : Upd T.n (But x.r) T (hput T x.r (x.ob sf.tick)) := Upd.refl.set (fun _ k => k rfl) gx
 have X1 := X.but gx u1
 have hs1 := X1.hs
 obtain ⟨_, T2, h2, rfl, u2⟩ := need_ok ok hG (d := d + 7) (T := hput T x.r (x.ob sf.tick)) (okP_of pa_facts.1)
 obtain ⟨_, T3, h3, rfl, u3⟩ := need_right_ok ok hG (d := d + 2) (u := x.u) (X1.tr.all u2) rch3 (by rw [B.xu]; decide) (x := 114) rfl
 have u23 := u2.then u3 u2.1
 have n3 : 1 ≤ T3.n := Nat.le_trans B.pn u23.1
 have hs3 := u23.get trivial hs1
 have le0 : (0 : Int) ≤ since := Int.natCast_nonneg _
 have le1 : ¬ (since : Int) ≤ sf.rev := by rw [B.er]; exact Int.not_le.mpr (Int.ofNat_lt.mpr hsr)
 refine XC_funL ok (l := [(1735222900, _), (126883592042095, _), (1769300593, _), (1701800556, _), (500269479284, _), (439771687540, _)]) (tF hG rfl) rfl fun lz hz Qz hQ => ?_
 have hz0 := hz 1735222900 _ rfl
 have hz1 := hz 126883592042095 _ rfl
 have hz2 := hz 1769300593 _ rfl
 have hz3 := hz 1701800556 _ rfl
 have hz4 := hz 500269479284 _ rfl
 have hz5 := hz 439771687540 _ rfl
 clear hz
 apply XX_consP
 apply S_asg
 apply E_attr ok
 apply E_lm ok
 exact (by with_reducible repeat' first|assumption|exact lk_same|apply lk_else|apply lk_drop|with_unfolding_all rfl)
 ·(with_reducible repeat' first|assumption|exact get_new _ _|apply get_put|apply get_old|refine get_nf (by assumption) ?_|apply get_kd|with_unfolding_all rfl)
 exact tM hG rfl
 exact rfl
 refine Es_loc (by with_reducible repeat' first|assumption|exact lk_same|apply lk_else|apply lk_drop|with_unfolding_all rfl) ?_
 apply Es_nil
 refine k_ca (h1) ?_
 apply k_at2
 ·(with_reducible repeat' first|assumption|exact get_new _ _|apply get_put|apply get_old|refine get_nf (by assumption) ?_|apply get_kd|with_unfolding_all rfl)
 exact tA hG rfl
 exact rfl
 apply XX_consP
 apply S_expr
 refine E_callF ok (tG hG rfl) (tF hG rfl) ?_
 apply Es_cons
 apply E_la ok
 exact (by with_reducible repeat' first|assumption|exact lk_same|apply lk_else|apply lk_drop|with_unfolding_all rfl)
 ·(with_reducible repeat' first|assumption|exact get_new _ _|apply get_put|apply get_old|refine get_nf (by assumption) ?_|apply get_kd|with_unfolding_all rfl)
 exact tA hG rfl
 exact rfl
 apply Es_cons
 refine E_callF ok (tG hG rfl) (tF hG rfl) ?_
 refine Es_loc (by with_reducible repeat' first|assumption|exact lk_same|apply lk_else|apply lk_drop|with_unfolding_all rfl) ?_
 apply Es_nil
 refine k_ca (h2) ?_
 refine Es_loc (by with_reducible repeat' first|assumption|exact lk_same|apply lk_else|apply lk_drop|with_unfolding_all rfl) ?_
 apply Es_cons
 apply E_str
 apply Es_nil
 refine k_ca (h3) ?_
 apply XX_consP
 apply S_asg
 apply E_la ok
 exact (by with_reducible repeat' first|assumption|exact lk_same|apply lk_else|apply lk_drop|with_unfolding_all rfl)
 ·(with_reducible repeat' first|assumption|exact get_new _ _|apply get_put|apply get_old|refine get_nf (by assumption) ?_|apply get_kd|with_unfolding_all rfl)
 exact tA hG rfl
 exact rfl
 apply XX_headP
 apply XS_ifP
 apply T_cmpP
 refine E_loc (by with_reducible repeat' first|assumption|exact lk_same|apply lk_else|apply lk_drop|with_unfolding_all rfl) ?_
 apply E_none
 refine k_cm true (C_isnt1 rfl) ?_
 apply XX_headP
 apply XS_ifP
 apply T_orP
 apply Ts_goP
 apply T_cmpP
 refine E_callB ok (tG hG rfl) (by first | exact .inl ⟨_, rfl⟩ | exact .inr ⟨_, rfl⟩) ?_
 refine Es_loc (by with_reducible repeat' first|assumption|exact lk_same|apply lk_else|apply lk_drop|with_unfolding_all rfl) ?_
 apply Es_nil
 refine k_bc (by first|exact B_typeS|exact B_typeI|exact B_typeT (by (with_reducible repeat' first|assumption|exact get_new _ _|apply get_put|apply get_old|refine get_nf (by assumption) ?_|apply get_kd|with_unfolding_all rfl))) ?_
 refine E_glb ok (tG hG rfl) ?_
 refine k_cm false (by first | exact C_isnt0 | exact C_isnt1 rfl | exact C_isntT) ?_
 apply k_ye
 apply Ts_stopP
 apply T_notP
 apply T_cmp2P
 apply E_int
 refine E_loc (by with_reducible repeat' first|assumption|exact lk_same|apply lk_else|apply lk_drop|with_unfolding_all rfl) ?_
 refine k_cm true (cmt C_le (decide_eq_true le0)) ?_
 apply k_ye
 apply E_la ok
 exact (by with_reducible repeat' first|assumption|exact lk_same|apply lk_else|apply lk_drop|with_unfolding_all rfl)
 ·(with_reducible repeat' first|assumption|exact get_new _ _|apply get_put|apply get_old|refine get_nf (by assumption) ?_|apply get_kd|with_unfolding_all rfl)
 exact tA hG rfl
 exact rfl
 refine k_cm false (cmt C_le (decide_eq_false le1)) ?_
 apply k_ye
 apply XX_headP
 refine XS_raiseP ok xo (tG hG rfl) ?_
 apply Es_cons
 apply E_str
 refine Es_loc (by with_reducible repeat' first|assumption|exact lk_same|apply lk_else|apply lk_drop|with_unfolding_all rfl) ?_
 apply Es_nil
 refine k_rs (n3) ?_
 apply hQ
 exact ⟨get_new _ _, get_old hs3⟩
end
noncomputable abbrev lawA : PSs := (.cons (.expr (.meth (.loc 440023414132) 7693940 (.cons (.loc 7367032) (.cons (.str [47, 97]) (.cons (.call (.glb 7566708) (.cons (.loc 108) .nil)) .nil))))) .nil)
noncomputable abbrev lawD : PSs := (.cons (.expr (.meth (.loc 440023414132) 7693940 (.cons (.loc 7367032) (.cons (.str [47, 97]) (.cons (.str [108, 97, 116, 101, 114]) .nil))))) (.cons (.expr (.meth (.loc 6714981) 111529134485858 (.cons (.tuple (.cons (.attr (.loc 440023414132) 8030035183836554867) (.cons (.str [115, 101, 116]) (.cons (.str [47, 97]) .nil)))) .nil))) .nil))
noncomputable abbrev dueV : PE := .tuple (.cons (.loc 8030035183836554867) (.cons (.str [115, 101, 116]) (.cons (.str [47, 97]) .nil)))
theorem il_of {i n len : Nat} (h : i + (n + 1) = len) : i < len := by omega
theorem nx_of {i n len : Nat} (h : i + (n + 1) = len) : i + 1 + n = len := by omega
structure LkA (loc : Loc) (s : Nat) : Prop where
 h1 : lk loc 129129977701492 = some (.ref 0)
 h2 : lk loc 440023414132 = some (.ref s)
 h3 : lk loc 7367032 = some (.int 1)
theorem fmodN (v : Int) (n : Nat) (h : 0 < n) : ∃ k : Nat, k < n ∧ Int.fmod v n = (k : Int) := by
 have h1 := Int.fmod_nonneg_of_pos v (show (0 : Int) < n by omega)
 have h2 := Int.fmod_lt_of_pos v (show (0 : Int) < n by omega)
 exact ⟨(Int.fmod v n).toNat, by omega, by omega⟩
theorem due_eq {since rev : Nat} (h : since ≤ rev) (h1 : 1 ≤ rev) : (cond (decide ((since : Int) < 1)) [((1 : Int), [99, 114, 101, 97, 116, 101])] []) ++ (List.range (rev + 1 - (if since + 1 > 2 then since + 1 else 2))).map (fun i => ((((if since + 1 > 2 then since + 1 else 2) + i : Nat) : Int), [115, 101, 116])) = evL since (rev - since) := by
 by_cases q : since = 0
 ·subst q
  obtain ⟨m, rfl⟩ : ∃ m, rev = m + 1 := ⟨rev - 1, by omega⟩
  rw [if_neg (by omega)]
  show ((1 : Int), _) :: _ = _
  unfold evL
  rw [show m + 1 + 1 - 2 = m by omega, show m + 1 - 0 = m + 1 by omega, List.range_succ_eq_map, List.map_cons, List.map_map]
  refine congr (congrArg List.cons ?_) ?_
  ·unfold wdOf; rw [if_pos rfl]; rfl
  ·refine List.map_congr_left fun i _ => ?_
   show _ = (((0 + (i + 1) + 1 : Nat) : Int), wdOf (0 + (i + 1) + 1))
   unfold wdOf
   rw [if_neg (by omega), show 2 + i = 0 + (i + 1) + 1 by omega]
 ·rw [decide_eq_false (show ¬ (since : Int) < 1 by omega)]
  show List.map _ _ = _
  unfold evL
  have e : (if since + 1 > 2 then since + 1 else 2) = since + 1 := by split <;> omega
  rw [e, show rev + 1 - (since + 1) = rev - since by omega]
  refine List.map_congr_left fun i _ => ?_
  unfold wdOf
  rw [if_neg (by omega), show since + 1 + i = since + i + 1 by omega]
theorem eq_evs {c : Cx} {T : Hp} {m : List (Int × List Nat)} : ∀ {rs rs' : List Ew}, rs.map Ew.q = m → rs'.map Ew.q = m → (∀ x ∈ rs, T.get x.r = some (.tuple x.vs)) → (∀ x ∈ rs', T.get x.r = some (.tuple x.vs)) → EqtL c T 1 (rs.map Ew.rf) (rs'.map Ew.rf) := by
 induction m with
 | nil =>
  intro rs rs' e1 e2 _ _
  cases List.map_eq_nil_iff.mp e1
  cases List.map_eq_nil_iff.mp e2
  exact EqL_nil
 | cons q m ih =>
  intro rs rs' e1 e2 h1 h2
  cases rs with
  | nil => cases e1
  | cons x rs =>
  cases rs' with
  | nil => cases e2
  | cons y rs' =>
  have a1 := (List.cons.inj e1).1
  have a2 := (List.cons.inj e2).1
  have g1 : T.get x.r = some (.tuple [.int x.q.1, .str x.q.2, .str pa]) := h1 x (.head _)
  have g2 : T.get y.r = some (.tuple [.int y.q.1, .str y.q.2, .str pa]) := h2 y (.head _)
  rw [a1] at g1
  rw [a2] at g2
  exact EqL_cons (Eq_seq (.inl ⟨g1, g2⟩) EqL_same) (ih (List.cons.inj e1).2 (List.cons.inj e2).2 (fun z m => h1 z (.tail _ m)) fun z m => h2 z (.tail _ m))
section
variable {c : Cx} (ok : Ok c) (hG : c.G = G) {d s : Nat} {x : Sn} {ns : List Int} {kp : Nat}
include ok hG
theorem loopA {src len : Nat} (h6 : len ≤ 6) (n : Nat) : ∀ (i : Nat) (T : Hp) (loc : Loc) (sf : SF) (lr sta : Nat) (rows : List Rn), i + n = len → B4 T s lr ns x sf sta (1 + i) kp rows → T.get sf.wat = some (.dict [] 0) → 1 ≤ sf.wat → LkA loc s → LoP c (d + 12) loc T [108] src (.range 0 len) i lawA (fun l T' => ∃ sf' lr' sta' rows', B4 T' s lr' ns x sf' sta' (1 + len) kp rows' ∧ T'.get sf'.wat = some (.dict [] 0) ∧ 1 ≤ sf'.wat ∧ LkA l s) (fun _ _ => False) := by
 induction n with
 | zero =>
  intro i T loc sf lr sta rows hi B hw pw lc
  cases hi
  exact L_endP (.inr ⟨Nat.le_refl _, rfl⟩) ⟨sf, lr, sta, rows, B, hw, pw, lc⟩
 | succ n ih =>
  intro i T loc sf lr sta rows hi B hw pw lc
  have il := il_of hi
  obtain ⟨v, T1, h1, sf', lr', sta', rows', B1, w1, e1⟩ := set0 ok hG (d := d) (data := digits i) B (Nat.le_add_right 1 i) hw
  obtain ⟨k1, k2, k3⟩ := lc
  obtain ⟨sp, dt, g, X⟩ := B.X
  have hs := X.hs
  refine L_nextP (y := .int (i : Int)) (.inl ⟨il, by rw [Int.zero_add]⟩) bind_one ?_
  apply X_consP
  apply S_expr
  apply E_lm ok
  exact (by with_reducible repeat' first|assumption|exact lk_same|apply lk_else|apply lk_drop|with_unfolding_all rfl)
  ·(with_reducible repeat' first|assumption|exact get_new _ _|apply get_put|apply get_old|refine get_nf (by assumption) ?_|apply get_kd|with_unfolding_all rfl)
  exact tM hG rfl
  exact rfl
  refine Es_loc (by with_reducible repeat' first|assumption|exact lk_same|apply lk_else|apply lk_drop|with_unfolding_all rfl) ?_
  apply Es_cons
  apply E_str
  apply Es_cons
  refine E_callB ok (tG hG rfl) (by first | exact .inl ⟨_, rfl⟩ | exact .inr ⟨_, rfl⟩) ?_
  refine Es_loc (by with_reducible repeat' first|assumption|exact lk_same|apply lk_else|apply lk_drop|with_unfolding_all rfl) ?_
  apply Es_nil
  refine k_bc (B_strI (Nat.lt_of_lt_of_le il (Nat.le_trans h6 (lb rfl)))) ?_
  apply Es_nil
  refine k_ca (h1) ?_
  apply X_nilP
  rw [Nat.add_assoc] at B1
  exact ih (i + 1) T1 _ sf' lr' sta' rows' (nx_of hi) B1 w1 (by rw [e1]; exact pw) ⟨by rw [lk_pt, if_neg (by decide)]; exact k1, by rw [lk_pt, if_neg (by decide)]; exact k2, by rw [lk_pt, if_neg (by decide)]; exact k3⟩
theorem due_loop {A n0 src lo len : Nat} (hA : n0 ≤ A) (h1 : 1 ≤ A) (hl : len < 20) (n : Nat) : ∀ (j : Nat) (T : Hp) (loc : Loc) (ds : List Ew), j + n = len → n0 ≤ T.n → EvAt T A ds → ds.map Ew.q = (List.range j).map (fun i => (((lo + i : Nat) : Int), [115, 101, 116])) →
  CoP c (d + 12) loc T (.list dueV) A [8030035183836554867] src (.range lo len) j .nil fun T' => ∃ ds', EvAt T' A ds' ∧ ds'.map Ew.q = (List.range len).map (fun i => (((lo + i : Nat) : Int), [115, 101, 116])) ∧ Upd n0 All T T' := by
 induction n with
 | zero =>
  intro j T loc ds hj hn E e
  cases hj
  exact Co_endP (.inr ⟨Nat.le_refl _, rfl⟩) ⟨ds, E, e, Upd.refl⟩
 | succ n ih =>
  intro j T loc ds hj hn E e
  have jl := il_of hj
  have k1 : lk (pt loc 8030035183836554867 (.int ((lo : Int) + (j : Int)))) 8030035183836554867 = some (.int ((lo : Int) + (j : Int))) := by rw [lk_pt, if_pos rfl]
  have dl : ds.length = j := by
   have := congrArg List.length e
   rw [List.length_map, List.length_map, List.length_range] at this; exact this
  have g1 : (hnew T (.tuple [.int ((lo : Int) + (j : Int)), .str [115, 101, 116], .str [47, 97]])).get A = some (.list (ds.map Ew.rf)) := get_old E.h
  refine Co_listP (y := .int ((lo : Int) + (j : Int))) (.inl ⟨jl, rfl⟩) bind_one ?_
  apply Te_nilP
  apply k_ye
  apply E_tuple
  refine Es_loc k1 ?_
  apply Es_cons
  apply E_str
  apply Es_cons
  apply E_str
  apply Es_nil
  refine k_sh (lb rfl) ?_
  apply k_ap
  exact g1
  rw [List.length_map, dl]; exact Nat.lt_trans jl (Nat.lt_trans hl (lb rfl))
  first | assumption | exact Nat.le_add_left 1 _ | exact lb rfl
  have E1 := E.add (x := ⟨T.n, (((lo + j : Nat) : Int), [115, 101, 116])⟩) (P := All) (Upd.refl.new (o := .tuple [.int ((lo : Int) + (j : Int)), .str [115, 101, 116], .str [47, 97]])) g1 (fun _ _ _ => trivial) (get_new _ _)
  obtain ⟨T', h9, ds', E9, e9, u9⟩ := ih (j + 1) _ (pt loc 8030035183836554867 (.int ((lo : Int) + (j : Int)))) _ (nx_of hj) (Nat.le_succ_of_le hn) E1 (by rw [List.map_append, e, List.range_succ, List.map_append]; rfl)
  exact ⟨T', h9, ds', E9, e9, (Upd.refl.new.put hA).trans u9⟩
structure M4 (T : Hp) (s : Nat) (ns : List Int) (x : Sn) (kp rev : Nat) (n : Int) (du : Nat) : Prop where
 ex : ∃ sf lr sta rows w ev ws ds, B4 T s lr ns x sf sta rev kp rows ∧ W1 T sf.wat w n 1 rev ev ws ∧ ev ≠ lr ∧ EvAt T du ds ∧ du ≠ lr ∧ du ≠ ev ∧ ds.map Ew.q = ws.map Ew.q ∧ ws.length ≤ rev
 pd : 1 ≤ du
structure LkD (loc : Loc) (s : Nat) (n : Int) (du : Nat) : Prop where
 h : LkA loc s
 h4 : lk loc 6714981 = some (.ref du)
 h5 : lk loc 452656980600 = some (.int n)
 h6 : lk loc 435661729895 = some (.str [])
theorem loopD {src len du : Nat} {n : Int} (h6 : len ≤ 3) (m : Nat) : ∀ (i : Nat) (T : Hp) (loc : Loc) (rev : Nat), i + m = len → M4 T s ns x kp rev n du → 1 ≤ rev → rev ≤ 7 + i → LkD loc s n du → LoP c (d + 12) loc T [108] src (.range 0 len) i lawD (fun l T' => ∃ rev', M4 T' s ns x kp rev' n du ∧ LkD l s n du) (fun _ _ => False) := by
 induction m with
 | zero =>
  intro i T loc rev hi M hr h7 lc
  cases hi
  exact L_endP (.inr ⟨Nat.le_refl _, rfl⟩) ⟨rev, M, lc⟩
 | succ m ih =>
  intro i T loc rev hi M hr h7 lc
  have il := il_of hi
  obtain ⟨sf, lr, sta, rows, w, ev, ws, ds, B, W, nev, E, nd1, nd2, eq, lw⟩ := M.ex
  have wsl : ws.length < 15 := Nat.lt_of_le_of_lt (Nat.le_trans lw (Nat.le_trans h7 (Nat.add_le_add_left (Nat.le_of_lt (Nat.lt_of_lt_of_le il h6)) 7))) (lb rfl)
  obtain ⟨v, T1, h1, sf', lr', sta', rows', B1, ⟨y, ey, W'⟩, _, l1, u1⟩ := set1 ok hG (d := d) (data := [108, 97, 116, 101, 114]) B hr W nev wsl (Int.le_refl _)
  obtain ⟨⟨k1, k2, k3⟩, k4, k5, k6⟩ := lc
  obtain ⟨sp, dt, g, X⟩ := B.X
  obtain ⟨sp1, dt1, g1, X1⟩ := B1.X
  have hs := X.hs
  have hs1 := X1.hs
  obtain ⟨px, hh, gx⟩ := B.se.he x (.head _)
  have kt : ∀ z vs, T.get z = some (.tuple vs) → KX lr ev x.r z (.tuple vs) := fun z vs g => ⟨ne_kd gx g rfl, ne_kd X.hr g rfl, ne_kd W.he.h g rfl, rfl⟩
  have E1 : EvAt T1 du ds := E.upd u1 ⟨ne_kd gx E.h rfl, nd1, nd2, rfl⟩ kt
  have lr1 : du ≠ lr' := by
   rcases l1 with rfl | l1
   ·exact nd1
   ·exact Nat.ne_of_lt (Nat.lt_of_lt_of_le (lt_of_get E.h) l1)
  have ev1 : ev ≠ lr' := by
   rcases l1 with rfl | l1
   ·exact nev
   ·exact Nat.ne_of_lt (Nat.lt_of_lt_of_le (lt_of_get W.he.h) l1)
  have dl : ds.length = ws.length := by
   have := congrArg List.length eq
   rw [List.length_map, List.length_map] at this; exact this
  have un : Upd T1.n All T1 (hnew T1 (.tuple [.int sf'.rev, .str [115, 101, 116], .str [47, 97]])) := Upd.refl.new
  have g2 := un.get trivial E1.h
  have er1 := B1.er
  have E2 := E1.add (x := ⟨T1.n, (sf'.rev, [115, 101, 116])⟩) un g2 (fun _ _ _ => trivial) (get_new _ _)
  have B2 := B1.new un
  have W2 := W'.upd un trivial trivial trivial fun _ _ _ => trivial
  have up : Upd (hnew T1 (.tuple [.int sf'.rev, .str [115, 101, 116], .str [47, 97]])).n (But du) (hnew T1 (.tuple [.int sf'.rev, .str [115, 101, 116], .str [47, 97]])) (hput (hnew T1 (.tuple [.int sf'.rev, .str [115, 101, 116], .str [47, 97]])) du (.list (ds.map Ew.rf ++ [.ref T1.n]))) := Upd.refl.set (fun _ k => k rfl) g2
  have pd := M.pd
  refine L_nextP (y := .int (i : Int)) (.inl ⟨il, by rw [Int.zero_add]⟩) bind_one ?_
  apply X_consP
  apply S_expr
  apply E_lm ok
  exact (by with_reducible repeat' first|assumption|exact lk_same|apply lk_else|apply lk_drop|with_unfolding_all rfl)
  ·(with_reducible repeat' first|assumption|exact get_new _ _|apply get_put|apply get_old|refine get_nf (by assumption) ?_|apply get_kd|with_unfolding_all rfl)
  exact tM hG rfl
  exact rfl
  refine Es_loc (by with_reducible repeat' first|assumption|exact lk_same|apply lk_else|apply lk_drop|with_unfolding_all rfl) ?_
  apply Es_cons
  apply E_str
  apply Es_cons
  apply E_str
  apply Es_nil
  refine k_ca (h1) ?_
  apply X_consP
  apply S_expr
  apply E_methB
  refine E_loc (by with_reducible repeat' first|assumption|exact lk_same|apply lk_else|apply lk_drop|with_unfolding_all rfl) ?_
  refine k_bg (G_append E1.h) ?_
  apply Es_cons
  apply E_tuple
  apply Es_cons
  apply E_la ok
  exact (by with_reducible repeat' first|assumption|exact lk_same|apply lk_else|apply lk_drop|with_unfolding_all rfl)
  ·(with_reducible repeat' first|assumption|exact get_new _ _|apply get_put|apply get_old|refine get_nf (by assumption) ?_|apply get_kd|with_unfolding_all rfl)
  exact tA hG rfl
  exact rfl
  apply Es_cons
  apply E_str
  apply Es_cons
  apply E_str
  apply Es_nil
  refine k_sh (lb rfl) ?_
  apply Es_nil
  refine k_bm (M_append g2 (by rw [List.length_map, dl]; exact Nat.lt_trans wsl (lb rfl)) pd) ?_
  apply X_nilP
  refine ih (i + 1) _ _ (rev + 1) (nx_of hi) ⟨⟨sf', lr', sta', rows', w, ev, ws ++ [y], ds ++ [⟨T1.n, (sf'.rev, [115, 101, 116])⟩], ?_, W2.upd up (ne_kd g2 W2.hd rfl) (ne_kd g2 W2.hw rfl) (Ne.symm nd2) (fun _ _ g => ne_kd g2 g rfl), ev1, E2, lr1, nd2, by rw [List.map_append, List.map_append, eq]; show _ ++ [(sf'.rev, _)] = _ ++ [y.q]; rw [ey, er1], by rw [List.length_append]; exact Nat.succ_le_succ lw⟩, pd⟩ (Nat.le_succ_of_le hr) (Nat.succ_le_succ h7) ⟨⟨?_, ?_, ?_⟩, ?_, ?_, ?_⟩
  ·obtain ⟨sp2, dt2, gg2, X2⟩ := B2.X
   exact { B2 with
    X := ⟨sp2, dt2, gg2, X2.upd up fun r a g q => by
     rcases q with rfl | rfl | rfl | q | q
     ·exact ne_kd g2 X2.hs rfl
     ·exact ne_kd g2 X2.hl rfl
     ·exact Ne.symm lr1
     ·exact ne_kd g2 g (by rw [Nat.eq_of_beq_eq_true q]; rfl)
     ·exact kd_ne g2 g q rfl⟩
    se := B2.se.upd up (fun _ _ g => ne_kd g2 g rfl) fun _ _ g => ne_kd g2 g rfl
    scr := up.get (Nat.ne_of_lt pd) B2.scr
    pn := B2.pn }
  all_goals (with_reducible repeat' first|assumption|exact lk_same|apply lk_else|with_unfolding_all rfl)
end
noncomputable abbrev lawT14 : PSs := (.cons (.for1 [108] (.call (.glb 439838794355) (.cons (.bin .mod (.sub (.loc 129129977701492) (.int 3)) (.int 4)) .nil)) (.cons (.expr (.meth (.loc 440023414132) 7693940 (.cons (.loc 7367032) (.cons (.str [47, 97]) (.cons (.str [108, 97, 116, 101, 114]) .nil))))) (.cons (.expr (.meth (.loc 6714981) 111529134485858 (.cons (.tuple (.cons (.attr (.loc 440023414132) 8030035183836554867) (.cons (.str [115, 101, 116]) (.cons (.str [47, 97]) .nil)))) .nil))) .nil))) (.cons (.ret (.cmp .eq (.tuple (.cons (.loc 435661729895) (.cons (.meth (.loc 440023414132) 128047728981862 (.cons (.loc 7367032) (.cons (.loc 452656980600) .nil))) .nil))) (.tuple (.cons (.str []) (.cons (.loc 6714981) .nil))))) .nil))
noncomputable abbrev lawT13 : PSs := (.cons (.ite (.cmp .lt (.loc 439771687540) (.attr (.attr (.loc 440023414132) 6844525) 504447006068)) (.cons (.asg 6714981 (.list (.cons (.tuple (.cons (.loc 7893103) (.cons (.str [97, 110, 101, 119]) (.cons (.str [47, 97]) .nil)))) .nil))) .nil) .nil) (.cons (.for1 [108] (.call (.glb 439838794355) (.cons (.bin .mod (.sub (.loc 129129977701492) (.int 3)) (.int 4)) .nil)) (.cons (.expr (.meth (.loc 440023414132) 7693940 (.cons (.loc 7367032) (.cons (.str [47, 97]) (.cons (.str [108, 97, 116, 101, 114]) .nil))))) (.cons (.expr (.meth (.loc 6714981) 111529134485858 (.cons (.tuple (.cons (.attr (.loc 440023414132) 8030035183836554867) (.cons (.str [115, 101, 116]) (.cons (.str [47, 97]) .nil)))) .nil))) .nil))) (.cons (.ret (.cmp .eq (.tuple (.cons (.loc 435661729895) (.cons (.meth (.loc 440023414132) 128047728981862 (.cons (.loc 7367032) (.cons (.loc 452656980600) .nil))) .nil))) (.tuple (.cons (.str []) (.cons (.loc 6714981) .nil))))) .nil)))
noncomputable abbrev lawT11 : PSs := (.cons (.asg 7893103 (.attr (.loc 440023414132) 8030035183836554867)) (.cons (.asg 6714981 (.bin .add (.bin .mul (.list (.cons (.tuple (.cons (.int 1) (.cons (.str [99, 114, 101, 97, 116, 101]) (.cons (.str [47, 97]) .nil)))) .nil)) (.call (.glb 7696234) (.cons (.cmp .lt (.loc 439771687540) (.int 1)) .nil))) (.listc (.tuple (.cons (.loc 8030035183836554867) (.cons (.str [115, 101, 116]) (.cons (.str [47, 97]) .nil)))) [8030035183836554867] (.call (.glb 439838794355) (.cons (.call (.glb 7955054) (.cons (.int 2) (.cons (.bin .add (.loc 439771687540) (.int 1)) .nil))) (.cons (.bin .add (.loc 7893103) (.int 1)) .nil))) .nil))) (.cons (.ite (.cmp .lt (.loc 439771687540) (.attr (.attr (.loc 440023414132) 6844525) 504447006068)) (.cons (.asg 6714981 (.list (.cons (.tuple (.cons (.loc 7893103) (.cons (.str [97, 110, 101, 119]) (.cons (.str [47, 97]) .nil)))) .nil))) .nil) .nil) (.cons (.for1 [108] (.call (.glb 439838794355) (.cons (.bin .mod (.sub (.loc 129129977701492) (.int 3)) (.int 4)) .nil)) (.cons (.expr (.meth (.loc 440023414132) 7693940 (.cons (.loc 7367032) (.cons (.str [47, 97]) (.cons (.str [108, 97, 116, 101, 114]) .nil))))) (.cons (.expr (.meth (.loc 6714981) 111529134485858 (.cons (.tuple (.cons (.attr (.loc 440023414132) 8030035183836554867) (.cons (.str [115, 101, 116]) (.cons (.str [47, 97]) .nil)))) .nil))) .nil))) (.cons (.ret (.cmp .eq (.tuple (.cons (.loc 435661729895) (.cons (.meth (.loc 440023414132) 128047728981862 (.cons (.loc 7367032) (.cons (.loc 452656980600) .nil))) .nil))) (.tuple (.cons (.str []) (.cons (.loc 6714981) .nil))))) .nil)))))
theorem ExP.imp {c : Cx} {d : Nat} {loc : Loc} {T : Hp} {b : PSs} {N N' : Loc → Hp → Prop} {R R' : AV → Hp → Prop} (h : ExP c d loc T b N R) (k : ∀ l T, N l T → N' l T) (k2 : ∀ v T, R v T → R' v T) : ExP c d loc T b N' R' := by
 rcases h with ⟨l, T', h, n⟩ | ⟨v, T', h, n⟩
 ·exact .inl ⟨l, T', h, k l T' n⟩
 ·exact .inr ⟨v, T', h, k2 v T' n⟩
theorem rb {q : Nat} (h : q < 100) : (-1000000 : Int) < q ∧ (q : Int) < 1000000 := by omega
theorem lo_b {s : Nat} (h : s ≤ 7) : (if s + 1 > 2 then s + 1 else 2) ≤ 9 := by split <;> omega
theorem lo_mx (s : Nat) : (if (s : Int) + 1 > 2 then (s : Int) + 1 else 2) = ((if s + 1 > 2 then s + 1 else 2 : Nat) : Int) := by split <;> split <;> omega
theorem len_b {r l : Nat} (h : r ≤ 7) : ((r : Int) + 1 - (l : Int)).toNat < 20 := by omega
theorem len_e (r l : Nat) : ((r : Int) + 1 - (l : Int)).toNat = r + 1 - l := by omega
section
variable {c : Cx} (ok : Ok c) (hG : c.G = G) {d s : Nat} {x : Sn} {ns : List Int} {kp rev : Nat} {T : Hp} {loc : Loc}
include ok hG
theorem tail14 {du : Nat} {n w3 : Int} (M : M4 T s ns x kp rev n du) (hr : 1 ≤ rev) (h7 : rev ≤ 7) (lc : LkD loc s n du) (hw : ns[3]? = some w3) : ExP c (d + 12) loc T lawT14 (fun _ _ => False) (fun v _ => v = .bool true) := by
 obtain ⟨q, q4, hq⟩ := fmodN w3 4 (by decide)
 obtain ⟨sf, lr, sta, rows, w, ev, ws, ds, B, W, nev, E, nd1, nd2, eq, lw⟩ := id M.ex
 have scr := B.scr
 have un : Upd T.n All T (hnew T (.range 0 q)) := Upd.refl.new
 have M1 : M4 (hnew T (.range 0 q)) s ns x kp rev n du := ⟨⟨sf, lr, sta, rows, w, ev, ws, ds, B.new un, W.upd un trivial trivial trivial fun _ _ _ => trivial, nev, E.upd un trivial fun _ _ _ => trivial, nd1, nd2, eq, lw⟩, M.pd⟩
 have lp := loopD ok hG (d := d) (src := T.n) (len := q) (Nat.le_of_lt_succ q4) _ 0 _ loc rev (Nat.zero_add _) M1 hr h7 lc
 obtain ⟨k1, k2, k3⟩ := id lc.h
 obtain ⟨loc', T2, h2, rev2, M2, ⟨⟨j1, j2, j3⟩, j4, j5, j6⟩⟩ | ⟨_, _, _, f⟩ := lp
 ·obtain ⟨sf2, lr2, sta2, rows2, w2, ev2, ws2, ds2, B2, W2, nev2, E2, nd12, nd22, eq2, lw2⟩ := id M2.ex
  obtain ⟨sp2, dt2, g2, X2⟩ := B2.X
  have hs2 := X2.hs
  obtain ⟨px, hh, gx⟩ := B2.se.he x (.head _)
  obtain ⟨_, T3, h3, rfl, u3⟩ := events_ok ok hG (d := d + 10) B2 W2
  have ge : EvAt T3 ev2 ws2 := W2.he.upd u3 ⟨ne_kd gx W2.he.h rfl, ne_kd W2.hw W2.he.h rfl⟩ fun _ _ g => ⟨ne_kd gx g rfl, ne_kd W2.hw g rfl⟩
  have gd : EvAt T3 du ds2 := E2.upd u3 ⟨ne_kd gx E2.h rfl, ne_kd W2.hw E2.h rfl⟩ fun _ _ g => ⟨ne_kd gx g rfl, ne_kd W2.hw g rfl⟩
  apply X_consP
  apply S_for
  refine E_callB ok (tG hG rfl) (by first | exact .inl ⟨_, rfl⟩ | exact .inr ⟨_, rfl⟩) ?_
  apply Es_cons
  apply E_bin
  apply E_sub
  refine E_loc (by with_reducible repeat' first|assumption|exact lk_same|apply lk_else|apply lk_drop|with_unfolding_all rfl) ?_
  apply E_int
  refine k_it (I_list (j := 3) (v := .int w3) scr (by rw [List.getElem?_map, hw]; rfl) (lb rfl)) ?_
  apply E_int
  refine k_bi (modI (by decide) hq) ?_
  apply Es_nil
  refine k_bc (B_range) ?_
  refine k_ik (show IkOf _ _ (.range 0 q) from ⟨_, get_new _ _, by decide, by decide, (rb (Nat.lt_trans q4 (lb rfl))).1, (rb (Nat.lt_trans q4 (lb rfl))).2, rfl⟩) ?_
  refine k_lo (h2) ?_
  apply X_consP
  apply S_ret
  apply E_cmp
  apply E_tuple
  refine Es_loc (by with_reducible repeat' first|assumption|exact lk_same|apply lk_else|apply lk_drop|with_unfolding_all rfl) ?_
  apply Es_cons
  apply E_lm ok
  exact (by with_reducible repeat' first|assumption|exact lk_same|apply lk_else|apply lk_drop|with_unfolding_all rfl)
  ·(with_reducible repeat' first|assumption|exact get_new _ _|apply get_put|apply get_old|refine get_nf (by assumption) ?_|apply get_kd|with_unfolding_all rfl)
  exact tM hG rfl
  exact rfl
  refine Es_loc (by with_reducible repeat' first|assumption|exact lk_same|apply lk_else|apply lk_drop|with_unfolding_all rfl) ?_
  refine Es_loc (by with_reducible repeat' first|assumption|exact lk_same|apply lk_else|apply lk_drop|with_unfolding_all rfl) ?_
  apply Es_nil
  refine k_ca (h3) ?_
  apply Es_nil
  refine k_sh (lb rfl) ?_
  apply E_tuple
  apply Es_cons
  apply E_str
  refine Es_loc (by with_reducible repeat' first|assumption|exact lk_same|apply lk_else|apply lk_drop|with_unfolding_all rfl) ?_
  apply Es_nil
  refine k_sh (lb rfl) ?_
  refine k_cm _ (C_eqR (f := 2) (lb rfl) (.inl ⟨get_old (get_new _ _), get_new _ _⟩) (EqL_cons Eq_same (EqL_cons (Eq_seq (.inr ⟨get_old (get_old ge.h), get_old (get_old gd.h)⟩) (eq_evs (m := ws2.map Ew.q) rfl eq2 (fun x m => get_old (get_old (ge.he x m))) fun x m => get_old (get_old (gd.he x m)))) EqL_nil))) ?_
  rfl
 ·exact f.elim
theorem tail13 {du lr sta since w ev : Nat} {n w3 : Int} {sf : SF} {rows : List Rn} {ws ds : List Ew} (B : B4 T s lr ns x sf sta rev kp rows) (W : W1 T sf.wat w n 1 rev ev ws) (nev : ev ≠ lr) (ew : ws.map Ew.q = exL since sta rev) (E : EvAt T du ds) (nd1 : du ≠ lr) (nd2 : du ≠ ev) (pd : 1 ≤ du) (ed : ds.map Ew.q = evL since (rev - since)) (hr : 1 ≤ rev) (h7 : rev ≤ 7) (lc : LkD loc s n du) (ls : lk loc 439771687540 = some (.int since)) (ln : lk loc 7893103 = some (.int sf.rev)) (hw : ns[3]? = some w3) : ExP c (d + 12) loc T lawT13 (fun _ _ => False) (fun v _ => v = .bool true) := by
 obtain ⟨sp, dt, g, X⟩ := B.X
 have hs := X.hs
 have hl := X.hl
 obtain ⟨⟨k1, k2, k3⟩, k4, k5, k6⟩ := id lc
 unfold exL at ew
 by_cases h : since < sta
 ·rw [if_pos h] at ew
  have u : Upd T.n All T (hnew (hnew T (.tuple [.int sf.rev, .str [97, 110, 101, 119], .str [47, 97]])) (.list [.ref T.n])) := Upd.refl.new.new
  have wl : ws.length ≤ rev := by
   have := congrArg List.length ew
   rw [List.length_map, List.length_singleton] at this
   rw [this]; exact hr
  have M : M4 (hnew (hnew T (.tuple [.int sf.rev, .str [97, 110, 101, 119], .str [47, 97]])) (.list [.ref T.n])) s ns x kp rev n (hnew T (.tuple [.int sf.rev, .str [97, 110, 101, 119], .str [47, 97]])).n := ⟨⟨sf, lr, sta, rows, w, ev, ws, [⟨T.n, (sf.rev, [97, 110, 101, 119])⟩], B.new u, W.upd u trivial trivial trivial fun _ _ _ => trivial, nev, ⟨get_new _ _, fun y m => by cases List.mem_singleton.mp m; exact get_old (get_new _ _)⟩, Nat.ne_of_gt (Nat.lt_succ_of_lt (lt_of_get X.hr)), Nat.ne_of_gt (Nat.lt_succ_of_lt (lt_of_get W.he.h)), by rw [ew, ← B.er]; rfl, wl⟩, Nat.le_add_left 1 _⟩
  apply X_consP
  apply S_if
  apply T_cmpP
  refine E_loc (by with_reducible repeat' first|assumption|exact lk_same|apply lk_else|apply lk_drop|with_unfolding_all rfl) ?_
  apply E_attr ok
  apply E_la ok
  exact (by with_reducible repeat' first|assumption|exact lk_same|apply lk_else|apply lk_drop|with_unfolding_all rfl)
  ·(with_reducible repeat' first|assumption|exact get_new _ _|apply get_put|apply get_old|refine get_nf (by assumption) ?_|apply get_kd|with_unfolding_all rfl)
  exact tA hG rfl
  exact rfl
  apply k_at2
  ·(with_reducible repeat' first|assumption|exact get_new _ _|apply get_put|apply get_old|refine get_nf (by assumption) ?_|apply get_kd|with_unfolding_all rfl)
  exact tA hG rfl
  exact rfl
  refine k_cm true (cmt C_lt (decide_eq_true (Int.ofNat_lt.mpr h))) ?_
  apply X_consP
  apply S_asg
  apply E_list
  apply Es_cons
  apply E_tuple
  refine Es_loc (by with_reducible repeat' first|assumption|exact lk_same|apply lk_else|apply lk_drop|with_unfolding_all rfl) ?_
  apply Es_cons
  apply E_str
  apply Es_cons
  apply E_str
  apply Es_nil
  refine k_sh (lb rfl) ?_
  apply Es_nil
  refine k_sh (lb rfl) ?_
  apply X_nilP
  exact tail14 ok hG M hr h7 ⟨⟨(by with_reducible repeat' first|assumption|exact lk_same|apply lk_else|apply lk_drop|with_unfolding_all rfl), (by with_reducible repeat' first|assumption|exact lk_same|apply lk_else|apply lk_drop|with_unfolding_all rfl), (by with_reducible repeat' first|assumption|exact lk_same|apply lk_else|apply lk_drop|with_unfolding_all rfl)⟩, lk_same, (by with_reducible repeat' first|assumption|exact lk_same|apply lk_else|apply lk_drop|with_unfolding_all rfl), (by with_reducible repeat' first|assumption|exact lk_same|apply lk_else|apply lk_drop|with_unfolding_all rfl)⟩ hw
 ·rw [if_neg h] at ew
  have wl : ws.length ≤ rev := by
   have := congrArg List.length ew
   rw [List.length_map] at this
   unfold evL at this
   rw [List.length_map, List.length_range] at this
   rw [this]; exact Nat.sub_le _ _
  have M : M4 T s ns x kp rev n du := ⟨⟨sf, lr, sta, rows, w, ev, ws, ds, B, W, nev, E, nd1, nd2, ed.trans ew.symm, wl⟩, pd⟩
  apply X_consP
  apply S_if
  apply T_cmpP
  refine E_loc (by with_reducible repeat' first|assumption|exact lk_same|apply lk_else|apply lk_drop|with_unfolding_all rfl) ?_
  apply E_attr ok
  apply E_la ok
  exact (by with_reducible repeat' first|assumption|exact lk_same|apply lk_else|apply lk_drop|with_unfolding_all rfl)
  ·(with_reducible repeat' first|assumption|exact get_new _ _|apply get_put|apply get_old|refine get_nf (by assumption) ?_|apply get_kd|with_unfolding_all rfl)
  exact tA hG rfl
  exact rfl
  apply k_at2
  ·(with_reducible repeat' first|assumption|exact get_new _ _|apply get_put|apply get_old|refine get_nf (by assumption) ?_|apply get_kd|with_unfolding_all rfl)
  exact tA hG rfl
  exact rfl
  refine k_cm false (cmt C_lt (decide_eq_false fun z => h (Int.ofNat_lt.mp z))) ?_
  apply X_nilP
  exact tail14 ok hG M hr h7 lc hw
theorem tail11 {lr sta since w ev : Nat} {n w3 : Int} {sf : SF} {rows : List Rn} {ws : List Ew} (B : B4 T s lr ns x sf sta rev kp rows) (W : W1 T sf.wat w n 1 rev ev ws) (nev : ev ≠ lr) (ew : ws.map Ew.q = exL since sta rev) (hsr : since ≤ rev) (hr : 1 ≤ rev) (h7 : rev ≤ 7) (lc : LkA loc s) (l5 : lk loc 452656980600 = some (.int n)) (l6 : lk loc 435661729895 = some (.str [])) (ls : lk loc 439771687540 = some (.int since)) (hw : ns[3]? = some w3) : ExP c (d + 12) loc T lawT11 (fun _ _ => False) (fun v _ => v = .bool true) := by
 obtain ⟨sp, dt, g, X⟩ := B.X
 have hs := X.hs
 have er := B.er
 obtain ⟨k1, k2, k3⟩ := id lc
 generalize hlo : (if since + 1 > 2 then since + 1 else 2) = lo
 have lob : lo ≤ 9 := hlo ▸ lo_b (Nat.le_trans hsr h7)
 have rbl := rb (Nat.lt_of_le_of_lt lob (lb rfl))
 have rbh := rb (Nat.lt_of_le_of_lt (Nat.succ_le_succ h7) (lb rfl))
 have dq := due_eq hsr hr
 rw [hlo] at dq
 generalize hT8 : hnew T (.tuple [.int 1, .str [99, 114, 101, 97, 116, 101], .str [47, 97]]) = T8
 generalize hT9 : hnew T8 (.list [.ref T.n]) = T9
 generalize hT10 : hnew T9 (.list (cond (decide ((since : Int) < 1)) [.ref T.n] [])) = T10
 have g8 : T8.get T.n = some (.tuple [.int 1, .str [99, 114, 101, 97, 116, 101], .str [47, 97]]) := by rw [← hT8]; exact get_new _ _
 have g9 : T9.get T8.n = some (.list [.ref T.n]) := by rw [← hT9]; exact get_new _ _
 have u8 : Upd T.n All T T8 := by rw [← hT8]; exact Upd.refl.new
 have u9 : Upd T8.n All T8 T9 := by rw [← hT9]; exact Upd.refl.new
 have u10 : Upd T9.n All T9 T10 := by rw [← hT10]; exact Upd.refl.new
 have g10 : T10.get T9.n = some (.list (cond (decide ((since : Int) < 1)) [.ref T.n] [])) := by rw [← hT10]; exact get_new _ _
 have p10 : 1 ≤ T10.n := by rw [← hT10]; exact Nat.le_add_left 1 _
 have dl := due_loop ok hG (d := d) (A := (hnew T10 (.range lo (sf.rev + 1))).n) (n0 := T10.n) (src := T10.n) (lo := lo) (len := (sf.rev + 1 - (lo : Int)).toNat) (Nat.le_succ _) (Nat.le_add_left 1 _) (by rw [er]; exact len_b h7) _ 0 (hnew (hnew T10 (.range lo (sf.rev + 1))) (.list [])) (rm [k_dot0, 8030035183836554867] (pt loc 7893103 (.int sf.rev))) [] (Nat.zero_add _) (Nat.le_succ_of_le (Nat.le_succ _)) ⟨get_new _ _, fun y m => (by cases m)⟩ rfl
 obtain ⟨T12, h12, ds, E12, e12, u12⟩ := dl
 have u12' : Upd T10.n All T10 T12 := Upd.refl.new.new.trans u12
 have g12 := u12'.get trivial g10
 have u0 : Upd T.n All T T12 := ((u8.then u9 u8.1).then u10 (Nat.le_trans u8.1 u9.1)).then u12' (Nat.le_trans (Nat.le_trans u8.1 u9.1) u10.1)
 have g812 : T12.get T.n = some (.tuple [.int 1, .str [99, 114, 101, 97, 116, 101], .str [47, 97]]) := u12'.get trivial (u10.get trivial (u9.get trivial g8))
 have dsl : ds.length < 20 := by
  have := congrArg List.length e12
  rw [List.length_map, List.length_map, List.length_range] at this
  rw [this, er]; exact len_b h7
 have l1 : (cond (decide ((since : Int) < 1)) [AV.ref T.n] []).length ≤ 1 := by cases decide ((since : Int) < 1) <;> exact lb rfl
 have uf : Upd T.n All T (hnew T12 (.list (cond (decide ((since : Int) < 1)) [.ref T.n] [] ++ ds.map Ew.rf))) := u0.new
 have mx : (if (since : Int) + 1 > 2 then (since : Int) + 1 else 2) = (lo : Int) := hlo ▸ lo_mx since
 have pn := B.pn
 have E13 : EvAt (hnew T12 (.list (cond (decide ((since : Int) < 1)) [.ref T.n] [] ++ ds.map Ew.rf))) T12.n (cond (decide ((since : Int) < 1)) [⟨T.n, (1, [99, 114, 101, 97, 116, 101])⟩] [] ++ ds) := by
  refine ⟨?_, fun y m => ?_⟩
  ·rw [List.map_append]
   cases decide ((since : Int) < 1) <;> exact get_new _ _
  ·rcases List.mem_append.mp m with m | m
   ·cases q : decide ((since : Int) < 1) with
    | false => rw [q] at m; cases m
    | true => rw [q] at m; cases List.mem_singleton.mp m; exact get_old g812
   ·exact get_old (E12.he y m)
 have ed : (cond (decide ((since : Int) < 1)) [(⟨T.n, (1, [99, 114, 101, 97, 116, 101])⟩ : Ew)] [] ++ ds).map Ew.q = evL since (rev - since) := by
  rw [List.map_append, e12, er, ← dq]
  rw [len_e]
  cases decide ((since : Int) < 1) <;> rfl
 subst hT10
 subst hT9
 subst hT8
 apply X_consP
 apply S_asg
 apply E_la ok
 exact (by with_reducible repeat' first|assumption|exact lk_same|apply lk_else|apply lk_drop|with_unfolding_all rfl)
 ·(with_reducible repeat' first|assumption|exact get_new _ _|apply get_put|apply get_old|refine get_nf (by assumption) ?_|apply get_kd|with_unfolding_all rfl)
 exact tA hG rfl
 exact rfl
 apply X_consP
 apply S_asg
 apply E_bin
 apply E_bin
 apply E_list
 apply Es_cons
 apply E_tuple
 apply Es_cons
 apply E_int
 apply Es_cons
 apply E_str
 apply Es_cons
 apply E_str
 apply Es_nil
 refine k_sh (lb rfl) ?_
 apply Es_nil
 refine k_sh (lb rfl) ?_
 refine E_callB ok (tG hG rfl) (by first | exact .inl ⟨_, rfl⟩ | exact .inr ⟨_, rfl⟩) ?_
 apply Es_cons
 apply E_cmp
 refine E_loc (by with_reducible repeat' first|assumption|exact lk_same|apply lk_else|apply lk_drop|with_unfolding_all rfl) ?_
 apply E_int
 refine k_cm _ (C_lt) ?_
 apply Es_nil
 refine k_bc (B_intB) ?_
 refine k_bi (B_mulL g9) ?_
 apply E_listc
 refine E_callB ok (tG hG rfl) (by first | exact .inl ⟨_, rfl⟩ | exact .inr ⟨_, rfl⟩) ?_
 apply Es_cons
 refine E_callB ok (tG hG rfl) (by first | exact .inl ⟨_, rfl⟩ | exact .inr ⟨_, rfl⟩) ?_
 apply Es_cons
 apply E_int
 apply Es_cons
 apply E_bin
 refine E_loc (by with_reducible repeat' first|assumption|exact lk_same|apply lk_else|apply lk_drop|with_unfolding_all rfl) ?_
 apply E_int
 refine k_bi (B_addI) ?_
 apply Es_nil
 refine k_bc (B_max2 mx) ?_
 apply Es_cons
 apply E_bin
 refine E_loc (by with_reducible repeat' first|assumption|exact lk_same|apply lk_else|apply lk_drop|with_unfolding_all rfl) ?_
 apply E_int
 refine k_bi (B_addI) ?_
 apply Es_nil
 refine k_bc (B_range2) ?_
 refine k_ik (show IkOf _ _ (.range lo (sf.rev + 1 - (lo : Int)).toNat) from ⟨_, get_new _ _, rbl.1, rbl.2, by rw [er]; exact rbh.1, by rw [er]; exact rbh.2, rfl⟩) ?_
 refine k_co (h12) ?_
 refine k_bi (B_addL g12 E12.h (by rw [List.length_map]; exact Nat.lt_of_le_of_lt (Nat.add_le_add l1 (Nat.le_of_lt dsl)) (lb rfl))) ?_
 have nlr : T12.n ≠ lr := Nat.ne_of_gt (lt_of_get (u0.get trivial X.hr))
 have nev2 : T12.n ≠ ev := Nat.ne_of_gt (lt_of_get (u0.get trivial W.he.h))
 exact tail13 ok hG (B.new uf) (W.upd uf trivial trivial trivial fun _ _ _ => trivial) nev ew E13 nlr nev2 (Nat.le_trans pn u0.1) ed hr h7 ⟨⟨(by with_reducible repeat' first|assumption|exact lk_same|apply lk_else|apply lk_drop|with_unfolding_all rfl), (by with_reducible repeat' first|assumption|exact lk_same|apply lk_else|apply lk_drop|with_unfolding_all rfl), (by with_reducible repeat' first|assumption|exact lk_same|apply lk_else|apply lk_drop|with_unfolding_all rfl)⟩, lk_same, (by with_reducible repeat' first|assumption|exact lk_same|apply lk_else|apply lk_drop|with_unfolding_all rfl), (by with_reducible repeat' first|assumption|exact lk_same|apply lk_else|apply lk_drop|with_unfolding_all rfl)⟩ (by with_reducible repeat' first|assumption|exact lk_same|apply lk_else|apply lk_drop|with_unfolding_all rfl) (by with_reducible repeat' first|assumption|exact lk_same|apply lk_else|apply lk_drop|with_unfolding_all rfl) hw
end
noncomputable abbrev lawT9 : PSs := (.cons (.try (.cons (.asg 452656980600 (.meth (.loc 440023414132) 452656980600 (.cons (.loc 7367032) (.cons (.str [47, 97]) (.cons (.str [101, 110, 116, 114, 121]) (.cons (.bool true) (.cons (.loc 439771687540) .nil))))))) .nil) 545146499936607190152532 495807853414 (.cons (.asg 435661729895 (.attr (.loc 495807853414) 1702064248)) .nil)) (.cons (.ite (.cmp .gt (.loc 439771687540) (.attr (.loc 440023414132) 8030035183836554867)) (.cons (.ret (.cmp .eq (.loc 435661729895) (.str [110, 111, 32, 115, 117, 99, 104, 32, 114, 101, 118, 105, 115, 105, 111, 110]))) .nil) .nil) (.cons (.asg 7893103 (.attr (.loc 440023414132) 8030035183836554867)) (.cons (.asg 6714981 (.bin .add (.bin .mul (.list (.cons (.tuple (.cons (.int 1) (.cons (.str [99, 114, 101, 97, 116, 101]) (.cons (.str [47, 97]) .nil)))) .nil)) (.call (.glb 7696234) (.cons (.cmp .lt (.loc 439771687540) (.int 1)) .nil))) (.listc (.tuple (.cons (.loc 8030035183836554867) (.cons (.str [115, 101, 116]) (.cons (.str [47, 97]) .nil)))) [8030035183836554867] (.call (.glb 439838794355) (.cons (.call (.glb 7955054) (.cons (.int 2) (.cons (.bin .add (.loc 439771687540) (.int 1)) .nil))) (.cons (.bin .add (.loc 7893103) (.int 1)) .nil))) .nil))) (.cons (.ite (.cmp .lt (.loc 439771687540) (.attr (.attr (.loc 440023414132) 6844525) 504447006068)) (.cons (.asg 6714981 (.list (.cons (.tuple (.cons (.loc 7893103) (.cons (.str [97, 110, 101, 119]) (.cons (.str [47, 97]) .nil)))) .nil))) .nil) .nil) (.cons (.for1 [108] (.call (.glb 439838794355) (.cons (.bin .mod (.sub (.loc 129129977701492) (.int 3)) (.int 4)) .nil)) (.cons (.expr (.meth (.loc 440023414132) 7693940 (.cons (.loc 7367032) (.cons (.str [47, 97]) (.cons (.str [108, 97, 116, 101, 114]) .nil))))) (.cons (.expr (.meth (.loc 6714981) 111529134485858 (.cons (.tuple (.cons (.attr (.loc 440023414132) 8030035183836554867) (.cons (.str [115, 101, 116]) (.cons (.str [47, 97]) .nil)))) .nil))) .nil))) (.cons (.ret (.cmp .eq (.tuple (.cons (.loc 435661729895) (.cons (.meth (.loc 440023414132) 128047728981862 (.cons (.loc 7367032) (.cons (.loc 452656980600) .nil))) .nil))) (.tuple (.cons (.str []) (.cons (.loc 6714981) .nil))))) .nil)))))))
theorem nth {ns : List Int} {i : Nat} (h : i < ns.length) : ∃ w, ns[i]? = some w := ⟨_, List.getElem?_eq_getElem h⟩
section
variable {c : Cx} (ok : Ok c) (hG : c.G = G) {d s : Nat} {x : Sn} {ns : List Int} {kp rev : Nat} {T : Hp} {loc : Loc} (xo : ExOk c 48 48)
include ok hG xo
theorem tail9 {lr sta since : Nat} {w3 : Int} {sf : SF} {rows : List Rn} (B7 : B4 T s lr ns x sf sta rev kp rows) (wt7 : T.get sf.wat = some (.dict [] 0)) (pw7 : 1 ≤ sf.wat) (r1 : 1 ≤ rev) (r7 : rev ≤ 7) (lc : LkA loc s) (l5 : lk loc 452656980600 = some .none) (l6 : lk loc 435661729895 = some (.str [])) (ls : lk loc 439771687540 = some (.int since)) (hw3 : ns[3]? = some w3) : ExP c (d + 12) loc T lawT9 (fun _ _ => False) (fun v _ => v = .bool true) := by
 obtain ⟨sp7, dt7, g7, X7⟩ := B7.X
 have hs7 := X7.hs
 have er7 := B7.er
 obtain ⟨k1, k2, k3⟩ := lc
 by_cases hc : since ≤ rev
 ·obtain ⟨_, T8, h8, n, sf8, w, ev, ws, rfl, B8, W8, nev, ew⟩ := watch_ok ok hG (d := d + 3) B7 wt7 pw7 (Nat.le_trans r7 (lb rfl)) hc
  obtain ⟨sp8, dt8, g8, X8⟩ := B8.X
  have hs8 := X8.hs
  have er8 := B8.er
  apply X_consP
  apply S_try
  apply X_consP
  apply S_asg
  apply E_lm ok
  exact (by with_reducible repeat' first|assumption|exact lk_same|apply lk_else|apply lk_drop|with_unfolding_all rfl)
  ·(with_reducible repeat' first|assumption|exact get_new _ _|apply get_put|apply get_old|refine get_nf (by assumption) ?_|apply get_kd|with_unfolding_all rfl)
  exact tM hG rfl
  exact rfl
  refine Es_loc (by with_reducible repeat' first|assumption|exact lk_same|apply lk_else|apply lk_drop|with_unfolding_all rfl) ?_
  apply Es_cons
  apply E_str
  apply Es_cons
  apply E_str
  apply Es_cons
  apply E_bool
  refine Es_loc (by with_reducible repeat' first|assumption|exact lk_same|apply lk_else|apply lk_drop|with_unfolding_all rfl) ?_
  apply Es_nil
  refine k_ca (h8) ?_
  apply X_nilP
  apply X_consP
  apply S_if
  apply T_cmpP
  refine E_loc (by with_reducible repeat' first|assumption|exact lk_same|apply lk_else|apply lk_drop|with_unfolding_all rfl) ?_
  apply E_la ok
  exact (by with_reducible repeat' first|assumption|exact lk_same|apply lk_else|apply lk_drop|with_unfolding_all rfl)
  ·(with_reducible repeat' first|assumption|exact get_new _ _|apply get_put|apply get_old|refine get_nf (by assumption) ?_|apply get_kd|with_unfolding_all rfl)
  exact tA hG rfl
  exact rfl
  refine k_cm false (cmt C_gt (decide_eq_false (by rw [er8]; exact Int.not_lt.mpr (Int.ofNat_le.mpr hc)))) ?_
  apply X_nilP
  exact tail11 ok hG (loc := _) B8 W8 nev ew hc r1 r7 ⟨(by with_reducible repeat' first|assumption|exact lk_same|apply lk_else|apply lk_drop|with_unfolding_all rfl), (by with_reducible repeat' first|assumption|exact lk_same|apply lk_else|apply lk_drop|with_unfolding_all rfl), (by with_reducible repeat' first|assumption|exact lk_same|apply lk_else|apply lk_drop|with_unfolding_all rfl)⟩ lk_same (by with_reducible repeat' first|assumption|exact lk_same|apply lk_else|apply lk_drop|with_unfolding_all rfl) (by with_reducible repeat' first|assumption|exact lk_same|apply lk_else|apply lk_drop|with_unfolding_all rfl) hw3
 ·have hx := watch_x ok hG xo (d := d + 3) (since := since) B7 (Nat.lt_of_not_le hc)
  apply X_consP
  refine S_catchP ok xo (tG hG rfl) ?_
  apply XX_headP
  apply XS_asgP
  apply XE_lmP ok
  exact (by with_reducible repeat' first|assumption|exact lk_same|apply lk_else|apply lk_drop|with_unfolding_all rfl)
  ·(with_reducible repeat' first|assumption|exact get_new _ _|apply get_put|apply get_old|refine get_nf (by assumption) ?_|apply get_kd|with_unfolding_all rfl)
  exact tM hG rfl
  exact rfl
  refine Es_loc (by with_reducible repeat' first|assumption|exact lk_same|apply lk_else|apply lk_drop|with_unfolding_all rfl) ?_
  apply Es_cons
  apply E_str
  apply Es_cons
  apply E_str
  apply Es_cons
  apply E_bool
  refine Es_loc (by with_reducible repeat' first|assumption|exact lk_same|apply lk_else|apply lk_drop|with_unfolding_all rfl) ?_
  apply Es_nil
  refine XCaP.imp (hx) ?_
  rintro r9 T9 ⟨g9, s9⟩
  refine ⟨_, _, g9, rfl, ?_⟩
  apply X_consP
  apply S_if
  apply T_cmpP
  refine E_loc (by with_reducible repeat' first|assumption|exact lk_same|apply lk_else|apply lk_drop|with_unfolding_all rfl) ?_
  apply E_la ok
  exact (by with_reducible repeat' first|assumption|exact lk_same|apply lk_else|apply lk_drop|with_unfolding_all rfl)
  ·(with_reducible repeat' first|assumption|exact get_new _ _|apply get_put|apply get_old|refine get_nf (by assumption) ?_|apply get_kd|with_unfolding_all rfl)
  exact tA hG rfl
  exact rfl
  refine k_cm true (cmt C_gt (decide_eq_true (by rw [er7]; exact Int.ofNat_lt.mpr (Nat.lt_of_not_le hc)))) ?_
  apply X_consP
  apply S_ret
  apply E_cmp
  refine E_loc (by with_reducible repeat' first|assumption|exact lk_same|apply lk_else|apply lk_drop|with_unfolding_all rfl) ?_
  apply E_str
  refine k_cm _ (C_eq rfl) ?_
  rfl
end
section
variable {c : Cx} (ok : Ok c) (hG : c.G = G) {d : Nat} {ns : List Int} (xo : ExOk c 48 48)
include ok hG xo
theorem law04 (hl : ns.length ≤ 63) : CaP c (lay0 ns) 736 [.ref 0] (d + 13) fun v _ => v = .bool true := by
 have scr := lay0_get ns
 have ll : (ns.map AV.int).length < 4000 := by rw [List.length_map]; exact lt4 hl rfl
 by_cases h4 : ns.length < 4
 ·skip
  refine C_funQ ok (l := [(129129977701492, _)]) (tF hG rfl) rfl fun Qz hQ => ?_
  apply X_consP
  apply S_if
  apply T_cmpP
  refine E_callB ok (tG hG rfl) (by first | exact .inl ⟨_, rfl⟩ | exact .inr ⟨_, rfl⟩) ?_
  refine Es_loc rfl ?_
  apply Es_nil
  refine k_bc (B_lenL scr ll) ?_
  apply E_int
  refine k_cm true (cmt C_lt (decide_eq_true (by rw [List.length_map]; exact Int.ofNat_lt.mpr h4))) ?_
  apply X_consP
  apply S_ret
  apply E_bool
  apply hQ
  rfl
 ·have h4 : 4 ≤ ns.length := Nat.le_of_not_lt h4
  obtain ⟨w0, hw0⟩ : ∃ w, ns[0]? = some w := nth (Nat.lt_of_lt_of_le (lb rfl) h4)
  obtain ⟨w1, hw1⟩ : ∃ w, ns[1]? = some w := nth (Nat.lt_of_lt_of_le (lb rfl) h4)
  obtain ⟨w2, hw2⟩ : ∃ w, ns[2]? = some w := nth (Nat.lt_of_lt_of_le (lb rfl) h4)
  obtain ⟨w3, hw3⟩ : ∃ w, ns[3]? = some w := nth (Nat.lt_of_lt_of_le (lb rfl) h4)
  obtain ⟨q0, q04, hq0⟩ := fmodN w0 4 (by decide)
  obtain ⟨q1, q17, hq1⟩ := fmodN w1 7 (by decide)
  obtain ⟨_, T1, h1, rfl, lr, sp, sf, X, se, wt, wne, pw, c0, v0, ek, u1⟩ := store_init ok hG (d := d + 1) (T := lay0 ns) (kp := 1 + (q0 : Int)) (Int.le_add_of_nonneg_right (Int.natCast_nonneg q0)) (Nat.le_refl 1)
  have scr1 := u1.get trivial scr
  have n1 : 1 ≤ T1.n := u1.1
  obtain ⟨_, T2, h2, rfl, x, xn, xu, xr, X2, se2, u2⟩ := open_ok ok hG (d := d + 9) (u := ann) (args := [.ref (lay0 ns).n, .str ann, .int 50]) (tm := 50) rfl (by decide) X se (List.cons_ne_nil _ _) (by decide) (by intro h; cases h) (lb rfl) (Nat.pos_of_ne_zero (ne_kd scr1 se.hd rfl)) (List.cons_ne_nil _ _) n1
  rw [c0] at xn h2
  have scr2 := u2.get ⟨Nat.ne_of_lt X.ps, ne_kd se.hd scr1 rfl⟩ scr1
  have n2 : 1 ≤ T2.n := Nat.le_trans n1 u2.1
  have wt2 := u2.get ⟨ne_kd X.hs wt rfl, wne⟩ wt
  obtain ⟨_, T3, h3, sf3, lr3, sta3, rows3, B3, wt3, e3⟩ := create0 ok hG (d := d) (sta0 := 0) (kp := 1 + q0) X2 v0 (by show sf.keep = _; rw [ek]; rfl) (by rw [Nat.add_comm]; exact q04) wt2 se2 xu xn scr2 n2
  obtain ⟨sp3, dt3, g3, X3⟩ := B3.X
  have hs1 := X.hs
  have hs2 := X2.hs
  have hs3 := X3.hs
  have lp := loopA ok hG (d := d) (src := T3.n) (len := q1) (Nat.le_of_lt_succ q17) _ 0 _ [(129129977701492, .ref 0), (1902536300, .int (1 + (q0 : Int))), (440023414132, .ref (lay0 ns).n), (7367032, .int 1)] sf3 lr3 sta3 rows3 (Nat.zero_add _) (B3.new (T' := hnew T3 (.range 0 q1)) Upd.refl.new) (get_old wt3) (by rw [e3]; exact pw) ⟨rfl, rfl, rfl⟩
  obtain ⟨loc', T7, h7, sf7, lr7, sta7, rows7, B7, wt7, pw7, ⟨k1, k2, k3⟩⟩ | ⟨_, _, _, f⟩ := lp
  ·have r1 : 1 ≤ 1 + q1 := Nat.le_add_right 1 q1
   have r7 : 1 + q1 ≤ 7 := by rw [Nat.add_comm]; exact q17
   obtain ⟨sp7, dt7, g7, X7⟩ := B7.X
   have hs7 := X7.hs
   have er7 := B7.er
   obtain ⟨since, sl, hs⟩ := fmodN w2 (1 + q1 + 2) (Nat.succ_pos _)
   have hs' : Int.fmod w2 (sf7.rev + 2) = (since : Int) := by rw [er7]; exact hs
   have scr7 := B7.scr
   refine C_funQ ok (l := [(129129977701492, _)]) (tF hG rfl) rfl fun Qz hQ => ?_
   apply X_consP
   apply S_if
   apply T_cmpP
   refine E_callB ok (tG hG rfl) (by first | exact .inl ⟨_, rfl⟩ | exact .inr ⟨_, rfl⟩) ?_
   refine Es_loc rfl ?_
   apply Es_nil
   refine k_bc (B_lenL scr ll) ?_
   apply E_int
   refine k_cm false (cmt C_lt (decide_eq_false (by rw [List.length_map]; exact Int.not_lt.mpr (Int.ofNat_le.mpr h4)))) ?_
   apply X_nilP
   apply X_consP
   apply S_asg
   apply E_bin
   apply E_int
   apply E_bin
   apply E_sub
   refine E_loc rfl ?_
   apply E_int
   refine k_it (I_list (j := 0) (v := .int w0) scr (by rw [List.getElem?_map, hw0]; rfl) (lb rfl)) ?_
   apply E_int
   refine k_bi (modI (by decide) hq0) ?_
   refine k_bi (B_addI) ?_
   apply X_consP
   apply S_asg
   refine E_new ok (tG hG rfl) (tC hG rfl) rfl ?_
   refine Es_loc rfl ?_
   apply Es_nil
   refine k_ca (h1) ?_
   apply k_no
   apply X_consP
   apply S_asg
   apply E_lm ok
   exact rfl
   ·(with_reducible repeat' first|assumption|exact get_new _ _|apply get_put|apply get_old|refine get_nf (by assumption) ?_|apply get_kd|with_unfolding_all rfl)
   exact tM hG rfl
   exact rfl
   apply Es_cons
   apply E_str
   apply Es_cons
   apply E_int
   apply Es_nil
   refine k_ca (h2) ?_
   apply X_consP
   apply S_expr
   apply E_lm ok
   exact rfl
   ·(with_reducible repeat' first|assumption|exact get_new _ _|apply get_put|apply get_old|refine get_nf (by assumption) ?_|apply get_kd|with_unfolding_all rfl)
   exact tM hG rfl
   exact rfl
   refine Es_loc rfl ?_
   apply Es_cons
   apply E_str
   apply Es_nil
   refine k_ca (h3) ?_
   apply X_consP
   apply S_for
   refine E_callB ok (tG hG rfl) (by first | exact .inl ⟨_, rfl⟩ | exact .inr ⟨_, rfl⟩) ?_
   apply Es_cons
   apply E_bin
   apply E_sub
   refine E_loc rfl ?_
   apply E_int
   refine k_it (I_list (j := 1) (v := .int w1) B3.scr (by rw [List.getElem?_map, hw1]; rfl) (lb rfl)) ?_
   apply E_int
   refine k_bi (modI (by decide) hq1) ?_
   apply Es_nil
   refine k_bc (B_range) ?_
   refine k_ik (show IkOf _ _ (.range 0 q1) from ⟨_, get_new _ _, by decide, by decide, (rb (Nat.lt_trans q17 (lb rfl))).1, (rb (Nat.lt_trans q17 (lb rfl))).2, rfl⟩) ?_
   refine k_lo (h7) ?_
   apply X_consP
   apply S_asg
   apply E_bin
   apply E_sub
   refine E_loc k1 ?_
   apply E_int
   refine k_it (I_list (j := 2) (v := .int w2) scr7 (by rw [List.getElem?_map, hw2]; rfl) (lb rfl)) ?_
   apply E_bin
   apply E_la ok
   exact k2
   exact hs7
   exact tA hG rfl
   exact rfl
   apply E_int
   refine k_bi (B_addI) ?_
   refine k_bi (modI (by rw [er7]; exact Int.ofNat_lt.mpr (Nat.succ_pos (1 + q1 + 1))) hs') ?_
   apply X_consP
   apply S_asg
   apply E_str
   apply X_consP
   apply S_asg
   apply E_none
   exact (tail9 ok hG xo (loc := _) B7 wt7 pw7 r1 r7 ⟨(by with_reducible repeat' first|assumption|exact lk_same|apply lk_else|apply lk_drop|with_unfolding_all rfl), (by with_reducible repeat' first|assumption|exact lk_same|apply lk_else|apply lk_drop|with_unfolding_all rfl), (by with_reducible repeat' first|assumption|exact lk_same|apply lk_else|apply lk_drop|with_unfolding_all rfl)⟩ (by with_reducible repeat' first|assumption|exact lk_same|apply lk_else|apply lk_drop|with_unfolding_all rfl) (by with_reducible repeat' first|assumption|exact lk_same|apply lk_else|apply lk_drop|with_unfolding_all rfl) (lk_else rfl (lk_else rfl lk_same)) hw3).imp (fun _ _ f => f.elim) fun v T h => hQ v T h
  ·exact f.elim
end
end Mine
end
section
open PySem PySem.W PyProof.Rows
set_option maxRecDepth 100000
set_option maxHeartbeats 0
namespace Mine.hx04
theorem tw10005989123721308266 : True:=⟨⟩
theorem tw1001199572592982989 : True:=⟨⟩
theorem tw10015067276959065075 : True:=⟨⟩
theorem tw10017339045657679173 : True:=⟨⟩
theorem tw10049463604265067418 : True:=⟨⟩
theorem tw10110385040881412323 : True:=⟨⟩
theorem tw10127559997284406344 : True:=⟨⟩
theorem tw10129223846941749295 : True:=⟨⟩
theorem tw10141771513859216959 : True:=⟨⟩
theorem tw10154698077525130000 : True:=⟨⟩
theorem tw10205503264619441674 : True:=⟨⟩
theorem tw10205738437649436411 : True:=⟨⟩
theorem tw10228196816731964704 : True:=⟨⟩
theorem tw10238724190610506491 : True:=⟨⟩
theorem tw10245600141050131181 : True:=⟨⟩
theorem tw10258368199202870969 : True:=⟨⟩
theorem tw10277386735771756272 : True:=⟨⟩
theorem tw10288723949529148153 : True:=⟨⟩
theorem tw1031614595953224847 : True:=⟨⟩
theorem tw10333792084504328666 : True:=⟨⟩
theorem tw10334480233037543419 : True:=⟨⟩
theorem tw10349289464689235710 : True:=⟨⟩
theorem tw103863911093638085 : True:=⟨⟩
theorem tw10386462636593802836 : True:=⟨⟩
theorem tw10395005217196980772 : True:=⟨⟩
theorem tw10395044995166640349 : True:=⟨⟩
theorem tw10400823259343200229 : True:=⟨⟩
theorem tw10403416673518848341 : True:=⟨⟩
theorem tw10431779441532102534 : True:=⟨⟩
theorem tw1043503110146039199 : True:=⟨⟩
theorem tw10450762461687979066 : True:=⟨⟩
theorem tw10462279185732862016 : True:=⟨⟩
theorem tw10491035110612714313 : True:=⟨⟩
theorem tw10502820284824006437 : True:=⟨⟩
theorem tw10548710572405526989 : True:=⟨⟩
theorem tw10579586154655062848 : True:=⟨⟩
theorem tw10614942349632848527 : True:=⟨⟩
theorem tw10619072801575862009 : True:=⟨⟩
theorem tw10624695116672051557 : True:=⟨⟩
theorem tw10666482658409300029 : True:=⟨⟩
theorem tw10685663251194693607 : True:=⟨⟩
theorem tw10691895023998939404 : True:=⟨⟩
theorem tw10711497963508923104 : True:=⟨⟩
theorem tw10721984226358987166 : True:=⟨⟩
theorem tw10726899453818481718 : True:=⟨⟩
theorem tw10751274854112889517 : True:=⟨⟩
theorem tw10761627645687287146 : True:=⟨⟩
theorem tw10768436780824782430 : True:=⟨⟩
theorem tw10770716461195648583 : True:=⟨⟩
theorem tw10794152938991210696 : True:=⟨⟩
theorem tw10817999480245986726 : True:=⟨⟩
theorem tw10837957157375185359 : True:=⟨⟩
theorem tw10861835195267354092 : True:=⟨⟩
theorem tw10868962646433063032 : True:=⟨⟩
theorem tw10878929715471432983 : True:=⟨⟩
theorem tw1090238756673516935 : True:=⟨⟩
theorem tw1090405139866554563 : True:=⟨⟩
theorem tw10907078605598740675 : True:=⟨⟩
theorem tw10929015113954381346 : True:=⟨⟩
theorem tw10931503668968639926 : True:=⟨⟩
theorem tw10931676622745268198 : True:=⟨⟩
theorem tw10968496665250715371 : True:=⟨⟩
theorem tw10983447069648007208 : True:=⟨⟩
theorem tw10983880656110724192 : True:=⟨⟩
theorem tw10991285631226187121 : True:=⟨⟩
theorem tw11007886863640809095 : True:=⟨⟩
theorem tw11053405285433896857 : True:=⟨⟩
theorem tw11097305227788900208 : True:=⟨⟩
theorem tw11110045331908942254 : True:=⟨⟩
theorem tw11127178490034956759 : True:=⟨⟩
theorem tw11140021591773681868 : True:=⟨⟩
theorem tw11147169586545468776 : True:=⟨⟩
theorem tw1114806131468959200 : True:=⟨⟩
theorem tw11208918207218019705 : True:=⟨⟩
theorem tw11242922209059546971 : True:=⟨⟩
theorem tw11277696035147969040 : True:=⟨⟩
theorem tw11311169636490435998 : True:=⟨⟩
theorem tw11348877206635585072 : True:=⟨⟩
theorem tw11361521770424808819 : True:=⟨⟩
theorem tw11375712540683800946 : True:=⟨⟩
theorem tw11382425540607779488 : True:=⟨⟩
theorem tw11420167507831828576 : True:=⟨⟩
theorem tw11434879341684880109 : True:=⟨⟩
theorem tw11436671976175714648 : True:=⟨⟩
theorem tw11450674389142529982 : True:=⟨⟩
theorem tw11453471954123204239 : True:=⟨⟩
theorem tw11466417624528789884 : True:=⟨⟩
theorem tw11474048534616997249 : True:=⟨⟩
theorem tw1152600982075664163 : True:=⟨⟩
theorem tw11554602713882532310 : True:=⟨⟩
theorem tw1156818125859986344 : True:=⟨⟩
theorem tw11579370465108887722 : True:=⟨⟩
theorem tw11587392485246538422 : True:=⟨⟩
theorem tw11589389944315771002 : True:=⟨⟩
theorem tw11618478440322896255 : True:=⟨⟩
theorem tw11635370561947011383 : True:=⟨⟩
theorem tw11654916166948708290 : True:=⟨⟩
theorem tw11678564470061121393 : True:=⟨⟩
theorem tw11706106875161281381 : True:=⟨⟩
theorem tw11712915512482026936 : True:=⟨⟩
theorem tw11718597037580919215 : True:=⟨⟩
theorem tw1176615869697439945 : True:=⟨⟩
theorem tw11797741003143913109 : True:=⟨⟩
theorem tw11802743829514950593 : True:=⟨⟩
theorem tw11825924099332129882 : True:=⟨⟩
theorem tw11850027635348453157 : True:=⟨⟩
theorem tw11856426892251641489 : True:=⟨⟩
theorem tw1189039159393886719 : True:=⟨⟩
theorem tw11891210174624751376 : True:=⟨⟩
theorem tw11921450523701079125 : True:=⟨⟩
theorem tw11925598432599711560 : True:=⟨⟩
theorem tw11929437437032938591 : True:=⟨⟩
theorem tw11941721026007806312 : True:=⟨⟩
theorem tw11952027102121785583 : True:=⟨⟩
theorem tw11981911768682962560 : True:=⟨⟩
theorem tw12015586688919062121 : True:=⟨⟩
theorem tw12047590142464002078 : True:=⟨⟩
theorem tw12053309870853409826 : True:=⟨⟩
theorem tw12054608649588533019 : True:=⟨⟩
theorem tw12096672784908626947 : True:=⟨⟩
theorem tw12108203097171943169 : True:=⟨⟩
theorem tw12123118424138871476 : True:=⟨⟩
theorem tw12166486353969226617 : True:=⟨⟩
theorem tw12173323168226724897 : True:=⟨⟩
theorem tw12184023322121546432 : True:=⟨⟩
theorem tw12186140800918252021 : True:=⟨⟩
theorem tw12199177985187766263 : True:=⟨⟩
theorem tw12226243981046039848 : True:=⟨⟩
theorem tw12228359256932806585 : True:=⟨⟩
theorem tw1227166343018422260 : True:=⟨⟩
theorem tw12307214495712725938 : True:=⟨⟩
theorem tw12367727243073414252 : True:=⟨⟩
theorem tw12374479515928049025 : True:=⟨⟩
theorem tw12459819992522630449 : True:=⟨⟩
theorem tw1246460960405506484 : True:=⟨⟩
theorem tw1248649602270376759 : True:=⟨⟩
theorem tw12491915142658118364 : True:=⟨⟩
theorem tw12511918884134879975 : True:=⟨⟩
theorem tw12514946438044741126 : True:=⟨⟩
theorem tw12534668101394936102 : True:=⟨⟩
theorem tw12540607578101782882 : True:=⟨⟩
theorem tw12676948479349636818 : True:=⟨⟩
theorem tw12686548434993157764 : True:=⟨⟩
theorem tw12701905359256688239 : True:=⟨⟩
theorem tw12707581292748848742 : True:=⟨⟩
theorem tw1272951345765165928 : True:=⟨⟩
theorem tw12743363528682320163 : True:=⟨⟩
theorem tw12746554867307649618 : True:=⟨⟩
theorem tw12753530964894406370 : True:=⟨⟩
theorem tw12794847095667520045 : True:=⟨⟩
theorem tw12802012620615222543 : True:=⟨⟩
theorem tw12803060590155492942 : True:=⟨⟩
theorem tw12803425173989415704 : True:=⟨⟩
theorem tw12826384482053148581 : True:=⟨⟩
theorem tw12860458709228502811 : True:=⟨⟩
theorem tw12865911084401012384 : True:=⟨⟩
theorem tw12894468684510573330 : True:=⟨⟩
theorem tw12908669909155320418 : True:=⟨⟩
theorem tw12924847296998141278 : True:=⟨⟩
theorem tw1294851714646761670 : True:=⟨⟩
theorem tw12955620695409935435 : True:=⟨⟩
theorem tw12986024521030143785 : True:=⟨⟩
theorem tw13035064244838479514 : True:=⟨⟩
theorem tw13085375670832289754 : True:=⟨⟩
theorem tw13092550190278175899 : True:=⟨⟩
theorem tw1311524410808475263 : True:=⟨⟩
theorem tw13165320086500296468 : True:=⟨⟩
theorem tw13175998401278397432 : True:=⟨⟩
theorem tw13186262786093519994 : True:=⟨⟩
theorem tw13188683700086360387 : True:=⟨⟩
theorem tw13194289037425363189 : True:=⟨⟩
theorem tw13225320041893995817 : True:=⟨⟩
theorem tw1324663288517294746 : True:=⟨⟩
theorem tw13251042490120074658 : True:=⟨⟩
theorem tw13279923743279038356 : True:=⟨⟩
theorem tw13281050517376183394 : True:=⟨⟩
theorem tw13312220655522974518 : True:=⟨⟩
theorem tw13317730327556965853 : True:=⟨⟩
theorem tw13414413199294833775 : True:=⟨⟩
theorem tw1342937439137872597 : True:=⟨⟩
theorem tw1343380346731215121 : True:=⟨⟩
theorem tw13469264137033829035 : True:=⟨⟩
theorem tw13471480925289865318 : True:=⟨⟩
theorem tw13501224230514220340 : True:=⟨⟩
theorem tw13504861836268127904 : True:=⟨⟩
theorem tw13520622102247613759 : True:=⟨⟩
theorem tw13538062972532435331 : True:=⟨⟩
theorem tw13556225336002299426 : True:=⟨⟩
theorem tw13556632927061518526 : True:=⟨⟩
theorem tw1359311493907078153 : True:=⟨⟩
theorem tw13594982699463060882 : True:=⟨⟩
theorem tw13606019878956182894 : True:=⟨⟩
theorem tw136253176721479989 : True:=⟨⟩
theorem tw13633022042724113284 : True:=⟨⟩
theorem tw13652873286255835024 : True:=⟨⟩
theorem tw13669411841343823525 : True:=⟨⟩
theorem tw13681618124007565157 : True:=⟨⟩
theorem tw13697894165969555732 : True:=⟨⟩
theorem tw13832188200685654690 : True:=⟨⟩
theorem tw13842483344591193377 : True:=⟨⟩
theorem tw13844029110672207343 : True:=⟨⟩
theorem tw13856568543870647584 : True:=⟨⟩
theorem tw13891589893742918199 : True:=⟨⟩
theorem tw13899722612557565520 : True:=⟨⟩
theorem tw13917585819097172151 : True:=⟨⟩
theorem tw13944455797375717742 : True:=⟨⟩
theorem tw13951879766937620074 : True:=⟨⟩
theorem tw13952630190763127078 : True:=⟨⟩
theorem tw13993333357577363092 : True:=⟨⟩
theorem tw14001352255194350259 : True:=⟨⟩
theorem tw14005155584768255997 : True:=⟨⟩
theorem tw1405274425633958961 : True:=⟨⟩
theorem tw14062782598588491749 : True:=⟨⟩
theorem tw14070109247358750642 : True:=⟨⟩
theorem tw14093857840157023037 : True:=⟨⟩
theorem tw14095500621234264243 : True:=⟨⟩
theorem tw1411404755992467435 : True:=⟨⟩
theorem tw14122667552260067207 : True:=⟨⟩
theorem tw14135820360206632420 : True:=⟨⟩
theorem tw14137337322174453629 : True:=⟨⟩
theorem tw14173376286730268012 : True:=⟨⟩
theorem tw14179341302758566131 : True:=⟨⟩
theorem tw14222770937578081476 : True:=⟨⟩
theorem tw1423134761611240872 : True:=⟨⟩
theorem tw14232750133279033077 : True:=⟨⟩
theorem tw14240548953816123593 : True:=⟨⟩
theorem tw1424740537030805194 : True:=⟨⟩
theorem tw14286754684611835233 : True:=⟨⟩
theorem tw14299054001036872438 : True:=⟨⟩
theorem tw14334835068190343691 : True:=⟨⟩
theorem tw14344526620105964302 : True:=⟨⟩
theorem tw1434469269976570118 : True:=⟨⟩
theorem tw1435558557720512033 : True:=⟨⟩
theorem tw14380336254292737553 : True:=⟨⟩
theorem tw14416784942771528598 : True:=⟨⟩
theorem tw14452403739113154976 : True:=⟨⟩
theorem tw1447393567152386892 : True:=⟨⟩
theorem tw14480556130134146213 : True:=⟨⟩
theorem tw14524946318009325234 : True:=⟨⟩
theorem tw1454418990426056925 : True:=⟨⟩
theorem tw14557077651691172479 : True:=⟨⟩
theorem tw14586766764761394798 : True:=⟨⟩
theorem tw14588418545634400383 : True:=⟨⟩
theorem tw14618228533604698292 : True:=⟨⟩
theorem tw14624097815856915790 : True:=⟨⟩
theorem tw14631003233336399609 : True:=⟨⟩
theorem tw14651376953393074890 : True:=⟨⟩
theorem tw14659981133672595791 : True:=⟨⟩
theorem tw14671755538224137719 : True:=⟨⟩
theorem tw14708216040580047890 : True:=⟨⟩
theorem tw14711858607344294074 : True:=⟨⟩
theorem tw14731348736605770845 : True:=⟨⟩
theorem tw14746964365647659776 : True:=⟨⟩
theorem tw14753459161601898090 : True:=⟨⟩
theorem tw14797070012753296101 : True:=⟨⟩
theorem tw14804165964990113436 : True:=⟨⟩
theorem tw14809546829488621019 : True:=⟨⟩
theorem tw14852552599029111282 : True:=⟨⟩
theorem tw14943606925170148503 : True:=⟨⟩
theorem tw14948930222457473215 : True:=⟨⟩
theorem tw14959881437466793142 : True:=⟨⟩
theorem tw14975602886163984788 : True:=⟨⟩
theorem tw14975822709107554039 : True:=⟨⟩
theorem tw149795119491841199 : True:=⟨⟩
theorem tw14997983999695272288 : True:=⟨⟩
theorem tw15033775378681562269 : True:=⟨⟩
theorem tw15035671429722122644 : True:=⟨⟩
theorem tw150438960933071533 : True:=⟨⟩
theorem tw15049049096786082262 : True:=⟨⟩
theorem tw1504916354042767964 : True:=⟨⟩
theorem tw15056001421683732096 : True:=⟨⟩
theorem tw15079796920312902116 : True:=⟨⟩
theorem tw15081837984919512273 : True:=⟨⟩
theorem tw15099065520149025933 : True:=⟨⟩
theorem tw15118276284436225936 : True:=⟨⟩
theorem tw15147882763151422718 : True:=⟨⟩
theorem tw15148220677493804568 : True:=⟨⟩
theorem tw15162666618850166183 : True:=⟨⟩
theorem tw15193668570044910369 : True:=⟨⟩
theorem tw15256432800578138079 : True:=⟨⟩
theorem tw15260684223030137054 : True:=⟨⟩
theorem tw15306539330610306904 : True:=⟨⟩
theorem tw15345419010572419779 : True:=⟨⟩
theorem tw15376209197160771806 : True:=⟨⟩
theorem tw15407509657307991360 : True:=⟨⟩
theorem tw15422016597152402473 : True:=⟨⟩
theorem tw15432425676542944125 : True:=⟨⟩
theorem tw15435763282096764974 : True:=⟨⟩
theorem tw15461188896176769988 : True:=⟨⟩
theorem tw1551760309780224404 : True:=⟨⟩
theorem tw15558488569313709580 : True:=⟨⟩
theorem tw15613308208899281747 : True:=⟨⟩
theorem tw15662117578298547664 : True:=⟨⟩
theorem tw15710894662863782389 : True:=⟨⟩
theorem tw15735393631482723525 : True:=⟨⟩
theorem tw15779541425099835326 : True:=⟨⟩
theorem tw15784693542253847941 : True:=⟨⟩
theorem tw15804351834521299351 : True:=⟨⟩
theorem tw15815152432735905532 : True:=⟨⟩
theorem tw15858189851224696760 : True:=⟨⟩
theorem tw15865296857004318004 : True:=⟨⟩
theorem tw15867775208623164646 : True:=⟨⟩
theorem tw15873469471074107892 : True:=⟨⟩
theorem tw15877237935597676969 : True:=⟨⟩
theorem tw15879163022691597504 : True:=⟨⟩
theorem tw15917911716156529638 : True:=⟨⟩
theorem tw15939251976832463754 : True:=⟨⟩
theorem tw15969351089888785222 : True:=⟨⟩
theorem tw15980675120699872182 : True:=⟨⟩
theorem tw15989955892764360024 : True:=⟨⟩
theorem tw15998608186448613903 : True:=⟨⟩
theorem tw16001944279033862472 : True:=⟨⟩
theorem tw16022015365307666264 : True:=⟨⟩
theorem tw16026657820893634026 : True:=⟨⟩
theorem tw16042804865410307509 : True:=⟨⟩
theorem tw160470201970121907 : True:=⟨⟩
theorem tw16084532199822107184 : True:=⟨⟩
theorem tw16103395516769757922 : True:=⟨⟩
theorem tw16115228531083095446 : True:=⟨⟩
theorem tw16149002949726801102 : True:=⟨⟩
theorem tw16163253261991887588 : True:=⟨⟩
theorem tw1617315577712344424 : True:=⟨⟩
theorem tw16198698727840928523 : True:=⟨⟩
theorem tw16223498973203142408 : True:=⟨⟩
theorem tw16240615989096579715 : True:=⟨⟩
theorem tw16258039032888345298 : True:=⟨⟩
theorem tw16355415284581749336 : True:=⟨⟩
theorem tw16358601068469605754 : True:=⟨⟩
theorem tw16364090468222631663 : True:=⟨⟩
theorem tw16365554771675325730 : True:=⟨⟩
theorem tw16369475325402618059 : True:=⟨⟩
theorem tw16371802763064661196 : True:=⟨⟩
theorem tw16373480497433955153 : True:=⟨⟩
theorem tw16381700330409947755 : True:=⟨⟩
theorem tw16404324450656768422 : True:=⟨⟩
theorem tw16409210358308125559 : True:=⟨⟩
theorem tw16418106668590790548 : True:=⟨⟩
theorem tw16422109876053679768 : True:=⟨⟩
theorem tw16514998512162036870 : True:=⟨⟩
theorem tw16553311525906087471 : True:=⟨⟩
theorem tw16623281464258024369 : True:=⟨⟩
theorem tw16631156976797198327 : True:=⟨⟩
theorem tw16638593857845264393 : True:=⟨⟩
theorem tw16647662267466952843 : True:=⟨⟩
theorem tw16658906931662439005 : True:=⟨⟩
theorem tw16675517894983808091 : True:=⟨⟩
theorem tw16721044757376670579 : True:=⟨⟩
theorem tw16762368212499209114 : True:=⟨⟩
theorem tw16780100004675870541 : True:=⟨⟩
theorem tw1682566699575881859 : True:=⟨⟩
theorem tw16840874763599032443 : True:=⟨⟩
theorem tw16902206526299700956 : True:=⟨⟩
theorem tw16942200696499283408 : True:=⟨⟩
theorem tw16974592205080287905 : True:=⟨⟩
theorem tw16986357795303088334 : True:=⟨⟩
theorem tw16996833446486254728 : True:=⟨⟩
theorem tw17003078745508616679 : True:=⟨⟩
theorem tw17035335336694158756 : True:=⟨⟩
theorem tw170548378796863056 : True:=⟨⟩
theorem tw17059205399938823654 : True:=⟨⟩
theorem tw17083593600117597352 : True:=⟨⟩
theorem tw17125723253641273860 : True:=⟨⟩
theorem tw17201471587649762321 : True:=⟨⟩
theorem tw17223464304942963848 : True:=⟨⟩
theorem tw17223497092062150362 : True:=⟨⟩
theorem tw17271163437278773065 : True:=⟨⟩
theorem tw17290359516010377910 : True:=⟨⟩
theorem tw17333991929588306997 : True:=⟨⟩
theorem tw17351181472164613559 : True:=⟨⟩
theorem tw17361567486424378932 : True:=⟨⟩
theorem tw17366773623668704859 : True:=⟨⟩
theorem tw17370627557298003600 : True:=⟨⟩
theorem tw17375491757275015333 : True:=⟨⟩
theorem tw17413987805489160300 : True:=⟨⟩
theorem tw17462417077113121846 : True:=⟨⟩
theorem tw17522952760438714408 : True:=⟨⟩
theorem tw17525511655334544616 : True:=⟨⟩
theorem tw17543593239337387633 : True:=⟨⟩
theorem tw1756285973144778593 : True:=⟨⟩
theorem tw17635443108950532718 : True:=⟨⟩
theorem tw17643156424983615049 : True:=⟨⟩
theorem tw17664929903127880193 : True:=⟨⟩
theorem tw17668628010857904180 : True:=⟨⟩
theorem tw17672561277266466074 : True:=⟨⟩
theorem tw17673638774655430169 : True:=⟨⟩
theorem tw17709922480339653465 : True:=⟨⟩
theorem tw17734973168733448396 : True:=⟨⟩
theorem tw17767515562911302603 : True:=⟨⟩
theorem tw17808799684194262617 : True:=⟨⟩
theorem tw17897368287782386583 : True:=⟨⟩
theorem tw17920939115414721308 : True:=⟨⟩
theorem tw1794895418031150907 : True:=⟨⟩
theorem tw17959602477860709339 : True:=⟨⟩
theorem tw18016630349699702299 : True:=⟨⟩
theorem tw18053271849931147964 : True:=⟨⟩
theorem tw18072095564894515371 : True:=⟨⟩
theorem tw18072660009064321749 : True:=⟨⟩
theorem tw18075077211144059159 : True:=⟨⟩
theorem tw18087946445692476372 : True:=⟨⟩
theorem tw18104566688834281487 : True:=⟨⟩
theorem tw1810685849057383154 : True:=⟨⟩
theorem tw18107444659826688674 : True:=⟨⟩
theorem tw18141287612871435475 : True:=⟨⟩
theorem tw18148178206901061394 : True:=⟨⟩
theorem tw18148945394789949162 : True:=⟨⟩
theorem tw18164320769543544605 : True:=⟨⟩
theorem tw18165649140123768140 : True:=⟨⟩
theorem tw1817854676873446174 : True:=⟨⟩
theorem tw18180666907857850068 : True:=⟨⟩
theorem tw18183171091002610201 : True:=⟨⟩
theorem tw18236627100415044144 : True:=⟨⟩
theorem tw18247687848039732320 : True:=⟨⟩
theorem tw18262211756892776437 : True:=⟨⟩
theorem tw18289668116115866051 : True:=⟨⟩
theorem tw18368674010880625567 : True:=⟨⟩
theorem tw18372994977325591852 : True:=⟨⟩
theorem tw18377446612547668545 : True:=⟨⟩
theorem tw1838083454989195954 : True:=⟨⟩
theorem tw1839303976595759498 : True:=⟨⟩
theorem tw18407312706498524425 : True:=⟨⟩
theorem tw1841435718292158269 : True:=⟨⟩
theorem tw18425668744258663029 : True:=⟨⟩
theorem tw18435875632556888648 : True:=⟨⟩
theorem tw18441354425625390508 : True:=⟨⟩
theorem tw1882099482162920316 : True:=⟨⟩
theorem tw1900938904306695507 : True:=⟨⟩
theorem tw1913497574110172438 : True:=⟨⟩
theorem tw1925394128585268261 : True:=⟨⟩
theorem tw1963579905384351616 : True:=⟨⟩
theorem tw1970669983019725452 : True:=⟨⟩
theorem tw1980758070334274753 : True:=⟨⟩
theorem tw198369000027077047 : True:=⟨⟩
theorem tw1985937406486680245 : True:=⟨⟩
theorem tw1987067855000155870 : True:=⟨⟩
theorem tw2026025746102584986 : True:=⟨⟩
theorem tw2057964764714640965 : True:=⟨⟩
theorem tw2061164749696420280 : True:=⟨⟩
theorem tw2074468725025934728 : True:=⟨⟩
theorem tw2083512522413517977 : True:=⟨⟩
theorem tw2091689497639066628 : True:=⟨⟩
theorem tw2099929709955415596 : True:=⟨⟩
theorem tw2157502742223929994 : True:=⟨⟩
theorem tw2174938790174277045 : True:=⟨⟩
theorem tw2175929088572891438 : True:=⟨⟩
theorem tw2197078053246257217 : True:=⟨⟩
theorem tw220009367437544702 : True:=⟨⟩
theorem tw2211519765290942024 : True:=⟨⟩
theorem tw2336680135342564781 : True:=⟨⟩
theorem tw2342566862539134392 : True:=⟨⟩
theorem tw2356818603322783021 : True:=⟨⟩
theorem tw2370063865043024637 : True:=⟨⟩
theorem tw238416590263724693 : True:=⟨⟩
theorem tw2384172207654705213 : True:=⟨⟩
theorem tw2398292833039068886 : True:=⟨⟩
theorem tw239964028514447545 : True:=⟨⟩
theorem tw24732262946205619 : True:=⟨⟩
theorem tw2478595399907946227 : True:=⟨⟩
theorem tw2509471008735241829 : True:=⟨⟩
theorem tw2512216916963643640 : True:=⟨⟩
theorem tw2591420984462070767 : True:=⟨⟩
theorem tw2604281743661951592 : True:=⟨⟩
theorem tw2616741359400837871 : True:=⟨⟩
theorem tw2619147664563897826 : True:=⟨⟩
theorem tw2645006376314003941 : True:=⟨⟩
theorem tw2650103035272428061 : True:=⟨⟩
theorem tw2650855467714512520 : True:=⟨⟩
theorem tw2657789361772417178 : True:=⟨⟩
theorem tw2660571709248784243 : True:=⟨⟩
theorem tw266952727288099858 : True:=⟨⟩
theorem tw2679929494732497348 : True:=⟨⟩
theorem tw2716273564743411825 : True:=⟨⟩
theorem tw2750904842653812951 : True:=⟨⟩
theorem tw2795602240387544110 : True:=⟨⟩
theorem tw2799383495277182428 : True:=⟨⟩
theorem tw2814910711282520751 : True:=⟨⟩
theorem tw2870451003915199777 : True:=⟨⟩
theorem tw2890106310930818864 : True:=⟨⟩
theorem tw2901716373048636347 : True:=⟨⟩
theorem tw2912093765362933737 : True:=⟨⟩
theorem tw2947037083908750007 : True:=⟨⟩
theorem tw2947260817297504525 : True:=⟨⟩
theorem tw2948706581506127535 : True:=⟨⟩
theorem tw2956515786216422632 : True:=⟨⟩
theorem tw2993745731338609113 : True:=⟨⟩
theorem tw301134233044711056 : True:=⟨⟩
theorem tw3019692032830188071 : True:=⟨⟩
theorem tw3026131620679908542 : True:=⟨⟩
theorem tw3091860430125819272 : True:=⟨⟩
theorem tw3147685715605034815 : True:=⟨⟩
theorem tw3156800797009572768 : True:=⟨⟩
theorem tw3157377851705461131 : True:=⟨⟩
theorem tw3164577357259364078 : True:=⟨⟩
theorem tw3172102009553973932 : True:=⟨⟩
theorem tw3173777782889689719 : True:=⟨⟩
theorem tw3183009115940716188 : True:=⟨⟩
theorem tw3183303264616182575 : True:=⟨⟩
theorem tw3184089708574894256 : True:=⟨⟩
theorem tw3193733628214899885 : True:=⟨⟩
theorem tw3195016649461262499 : True:=⟨⟩
theorem tw3216833268155531868 : True:=⟨⟩
theorem tw3223438750780218468 : True:=⟨⟩
theorem tw3224778764357936594 : True:=⟨⟩
theorem tw3228311384908758623 : True:=⟨⟩
theorem tw3231124379184326771 : True:=⟨⟩
theorem tw3232278712943792398 : True:=⟨⟩
theorem tw3254398736605647470 : True:=⟨⟩
theorem tw3288091222571561786 : True:=⟨⟩
theorem tw3308056436885964280 : True:=⟨⟩
theorem tw331803799400900573 : True:=⟨⟩
theorem tw3347559573227564459 : True:=⟨⟩
theorem tw3349347567337734354 : True:=⟨⟩
theorem tw3356426834399788871 : True:=⟨⟩
theorem tw3380294570293423927 : True:=⟨⟩
theorem tw341143045563792538 : True:=⟨⟩
theorem tw3438646219878344821 : True:=⟨⟩
theorem tw3471205750025305245 : True:=⟨⟩
theorem tw3490043634134826865 : True:=⟨⟩
theorem tw3523744441012185526 : True:=⟨⟩
theorem tw3556859912899831478 : True:=⟨⟩
theorem tw3563524399311161729 : True:=⟨⟩
theorem tw3575821102795475201 : True:=⟨⟩
theorem tw3596079860679065971 : True:=⟨⟩
theorem tw360868450984112855 : True:=⟨⟩
theorem tw3632273851274739522 : True:=⟨⟩
theorem tw3652239612282805191 : True:=⟨⟩
theorem tw3677687742992466158 : True:=⟨⟩
theorem tw3677698071007074107 : True:=⟨⟩
theorem tw3681966707884616933 : True:=⟨⟩
theorem tw3684366860643815871 : True:=⟨⟩
theorem tw3733311729414672694 : True:=⟨⟩
theorem tw3765621481450256305 : True:=⟨⟩
theorem tw3853422671877193052 : True:=⟨⟩
theorem tw3862604017487758907 : True:=⟨⟩
theorem tw3868189514245975581 : True:=⟨⟩
theorem tw3897501356209790796 : True:=⟨⟩
theorem tw3919744601600382726 : True:=⟨⟩
theorem tw3927116916028702503 : True:=⟨⟩
theorem tw3962105031978397690 : True:=⟨⟩
theorem tw3967428246993795553 : True:=⟨⟩
theorem tw397104199892047567 : True:=⟨⟩
theorem tw399855673578567235 : True:=⟨⟩
theorem tw4002964158475183853 : True:=⟨⟩
theorem tw402416483791282283 : True:=⟨⟩
theorem tw4025187502114269412 : True:=⟨⟩
theorem tw4026051330555618139 : True:=⟨⟩
theorem tw4029388473058341700 : True:=⟨⟩
theorem tw4033971552295128444 : True:=⟨⟩
theorem tw4035225900002464799 : True:=⟨⟩
theorem tw4048563220647568775 : True:=⟨⟩
theorem tw404952254394631075 : True:=⟨⟩
theorem tw4054373479079047788 : True:=⟨⟩
theorem tw4108311365170072511 : True:=⟨⟩
theorem tw4113800788873576093 : True:=⟨⟩
theorem tw4147401483402879260 : True:=⟨⟩
theorem tw4163344236234501785 : True:=⟨⟩
theorem tw4163995041405134493 : True:=⟨⟩
theorem tw4174760834612462537 : True:=⟨⟩
theorem tw4214178691964807632 : True:=⟨⟩
theorem tw4217211219050090366 : True:=⟨⟩
theorem tw4237697247643111731 : True:=⟨⟩
theorem tw4253082499511726437 : True:=⟨⟩
theorem tw4259128419851496105 : True:=⟨⟩
theorem tw4264985893223804447 : True:=⟨⟩
theorem tw4359221795789097749 : True:=⟨⟩
theorem tw4373951180938612076 : True:=⟨⟩
theorem tw4386005307873607519 : True:=⟨⟩
theorem tw4392663354104580215 : True:=⟨⟩
theorem tw4395809923429891176 : True:=⟨⟩
theorem tw4405068058712688373 : True:=⟨⟩
theorem tw441377045622521925 : True:=⟨⟩
theorem tw4448340482133849052 : True:=⟨⟩
theorem tw4452842320140937551 : True:=⟨⟩
theorem tw4466776768966190863 : True:=⟨⟩
theorem tw4477837541371149945 : True:=⟨⟩
theorem tw4480972264177259068 : True:=⟨⟩
theorem tw4493798001900391865 : True:=⟨⟩
theorem tw4496979505151567569 : True:=⟨⟩
theorem tw4505489235030780125 : True:=⟨⟩
theorem tw4523262984777008371 : True:=⟨⟩
theorem tw4547935760135523727 : True:=⟨⟩
theorem tw4595317056614536741 : True:=⟨⟩
theorem tw4618900348865030131 : True:=⟨⟩
theorem tw4622138381098078714 : True:=⟨⟩
theorem tw4623419443798349833 : True:=⟨⟩
theorem tw4626589661793097669 : True:=⟨⟩
theorem tw463059361001350685 : True:=⟨⟩
theorem tw4651638244069657082 : True:=⟨⟩
theorem tw4667539722276338711 : True:=⟨⟩
theorem tw4699417689399447506 : True:=⟨⟩
theorem tw4721287942271261274 : True:=⟨⟩
theorem tw4744908977023765742 : True:=⟨⟩
theorem tw4747237026113030349 : True:=⟨⟩
theorem tw4750485772926625169 : True:=⟨⟩
theorem tw4754072700990956626 : True:=⟨⟩
theorem tw476349221991515723 : True:=⟨⟩
theorem tw4806154566557725398 : True:=⟨⟩
theorem tw4820725824642297633 : True:=⟨⟩
theorem tw4822475286272519719 : True:=⟨⟩
theorem tw4833689603590590393 : True:=⟨⟩
theorem tw4883986820247145216 : True:=⟨⟩
theorem tw4910171546511016586 : True:=⟨⟩
theorem tw4921860750802165024 : True:=⟨⟩
theorem tw4939889483979592957 : True:=⟨⟩
theorem tw4959889179434088170 : True:=⟨⟩
theorem tw4970439908483390388 : True:=⟨⟩
theorem tw4985069150852799869 : True:=⟨⟩
theorem tw502089148339951659 : True:=⟨⟩
theorem tw5048019925995718696 : True:=⟨⟩
theorem tw505236681065140144 : True:=⟨⟩
theorem tw5079683864280467218 : True:=⟨⟩
theorem tw508555593714445360 : True:=⟨⟩
theorem tw5086081048442401350 : True:=⟨⟩
theorem tw5122450131430966389 : True:=⟨⟩
theorem tw5124234858066133784 : True:=⟨⟩
theorem tw5136450700788980478 : True:=⟨⟩
theorem tw5138935152469090132 : True:=⟨⟩
theorem tw5156894405782569883 : True:=⟨⟩
theorem tw5158562069953099609 : True:=⟨⟩
theorem tw516060149544360078 : True:=⟨⟩
theorem tw5166393222602371230 : True:=⟨⟩
theorem tw5219429986627882354 : True:=⟨⟩
theorem tw5227046575676742501 : True:=⟨⟩
theorem tw5242429938055006218 : True:=⟨⟩
theorem tw5244133506743785721 : True:=⟨⟩
theorem tw5290648879488483266 : True:=⟨⟩
theorem tw531825958698877338 : True:=⟨⟩
theorem tw5321080827905350408 : True:=⟨⟩
theorem tw5321084875319690432 : True:=⟨⟩
theorem tw5359643734352176101 : True:=⟨⟩
theorem tw5391335679321230303 : True:=⟨⟩
theorem tw5398677935858422819 : True:=⟨⟩
theorem tw5412451238677429361 : True:=⟨⟩
theorem tw5413227126639144623 : True:=⟨⟩
theorem tw5435555520337085392 : True:=⟨⟩
theorem tw5456023896899064940 : True:=⟨⟩
theorem tw5472869320737549366 : True:=⟨⟩
theorem tw5484502847796906123 : True:=⟨⟩
theorem tw5485289582350408877 : True:=⟨⟩
theorem tw5498445263997941701 : True:=⟨⟩
theorem tw5501472717005014173 : True:=⟨⟩
theorem tw5503176820714139715 : True:=⟨⟩
theorem tw552311468454350737 : True:=⟨⟩
theorem tw5534740290704518990 : True:=⟨⟩
theorem tw5536490622609115718 : True:=⟨⟩
theorem tw5563630444216505348 : True:=⟨⟩
theorem tw5584728868980008570 : True:=⟨⟩
theorem tw5595643164724699639 : True:=⟨⟩
theorem tw5598799362917361100 : True:=⟨⟩
theorem tw5608695692349921926 : True:=⟨⟩
theorem tw5681270808638657228 : True:=⟨⟩
theorem tw5682306276792322815 : True:=⟨⟩
theorem tw5690085337117846623 : True:=⟨⟩
theorem tw5690743991439102697 : True:=⟨⟩
theorem tw5696774701880469521 : True:=⟨⟩
theorem tw5738759001689720941 : True:=⟨⟩
theorem tw5778086499567317527 : True:=⟨⟩
theorem tw5778190059582778858 : True:=⟨⟩
theorem tw5783898690201182975 : True:=⟨⟩
theorem tw5824676808660328370 : True:=⟨⟩
theorem tw5834241745626734271 : True:=⟨⟩
theorem tw5834249625154048102 : True:=⟨⟩
theorem tw587107732018089720 : True:=⟨⟩
theorem tw5918453864070988490 : True:=⟨⟩
theorem tw5936688584637869115 : True:=⟨⟩
theorem tw5937953458708045416 : True:=⟨⟩
theorem tw596579278300845406 : True:=⟨⟩
theorem tw598116286456948146 : True:=⟨⟩
theorem tw5995779474951403260 : True:=⟨⟩
theorem tw6001271241027423201 : True:=⟨⟩
theorem tw6026704076001547446 : True:=⟨⟩
theorem tw6035448787508968836 : True:=⟨⟩
theorem tw6043594186995752393 : True:=⟨⟩
theorem tw6047618863459335353 : True:=⟨⟩
theorem tw6059574137181881343 : True:=⟨⟩
theorem tw610387845942983354 : True:=⟨⟩
theorem tw6105582872897569573 : True:=⟨⟩
theorem tw6110338641985973525 : True:=⟨⟩
theorem tw6111467730835185854 : True:=⟨⟩
theorem tw6115371049161979965 : True:=⟨⟩
theorem tw6125664286027503680 : True:=⟨⟩
theorem tw6129255329163601960 : True:=⟨⟩
theorem tw6164622081431456341 : True:=⟨⟩
theorem tw6196932949534937253 : True:=⟨⟩
theorem tw6200870541073316556 : True:=⟨⟩
theorem tw6210532610140586218 : True:=⟨⟩
theorem tw6234293679624743302 : True:=⟨⟩
theorem tw6243943620781275735 : True:=⟨⟩
theorem tw6282268091102939553 : True:=⟨⟩
theorem tw62859158169647938 : True:=⟨⟩
theorem tw6304636050875786698 : True:=⟨⟩
theorem tw6329078542475676026 : True:=⟨⟩
theorem tw63354161963247503 : True:=⟨⟩
theorem tw6352764681165857621 : True:=⟨⟩
theorem tw6375441538055671910 : True:=⟨⟩
theorem tw6378520318570482273 : True:=⟨⟩
theorem tw6389157191649680684 : True:=⟨⟩
theorem tw6391912650726213031 : True:=⟨⟩
theorem tw6423317768098982791 : True:=⟨⟩
theorem tw6439181451039833524 : True:=⟨⟩
theorem tw645564036940354161 : True:=⟨⟩
theorem tw6465854758486960334 : True:=⟨⟩
theorem tw6578796320069232808 : True:=⟨⟩
theorem tw660910323140208402 : True:=⟨⟩
theorem tw6610275363654292862 : True:=⟨⟩
theorem tw6620608456607029752 : True:=⟨⟩
theorem tw6628770271338620227 : True:=⟨⟩
theorem tw6649567869709438466 : True:=⟨⟩
theorem tw6684118531383639678 : True:=⟨⟩
theorem tw671324659337119277 : True:=⟨⟩
theorem tw6713928297396699861 : True:=⟨⟩
theorem tw6752533791036306759 : True:=⟨⟩
theorem tw6754916707611944984 : True:=⟨⟩
theorem tw6766999592114127018 : True:=⟨⟩
theorem tw6776948353561637409 : True:=⟨⟩
theorem tw6786310906569760552 : True:=⟨⟩
theorem tw6793450968228018771 : True:=⟨⟩
theorem tw6807899333244373147 : True:=⟨⟩
theorem tw683096114643571702 : True:=⟨⟩
theorem tw683948854282899409 : True:=⟨⟩
theorem tw6843731392702817153 : True:=⟨⟩
theorem tw6852899399775823647 : True:=⟨⟩
theorem tw6883318689274530400 : True:=⟨⟩
theorem tw6901488498361797753 : True:=⟨⟩
theorem tw696286518567206290 : True:=⟨⟩
theorem tw7035039420548673122 : True:=⟨⟩
theorem tw7036280970291003647 : True:=⟨⟩
theorem tw7044612394718507360 : True:=⟨⟩
theorem tw7057827435830183301 : True:=⟨⟩
theorem tw7064471500036729585 : True:=⟨⟩
theorem tw7065022663243850102 : True:=⟨⟩
theorem tw7079986972312269484 : True:=⟨⟩
theorem tw7084355543592681587 : True:=⟨⟩
theorem tw7085114487852767535 : True:=⟨⟩
theorem tw7130319763546509684 : True:=⟨⟩
theorem tw7152140951010180851 : True:=⟨⟩
theorem tw717066900693259249 : True:=⟨⟩
theorem tw722427062380873899 : True:=⟨⟩
theorem tw724148688325405400 : True:=⟨⟩
theorem tw7244666677700793053 : True:=⟨⟩
theorem tw7255284853220494806 : True:=⟨⟩
theorem tw7286141260457887612 : True:=⟨⟩
theorem tw7304948397401155345 : True:=⟨⟩
theorem tw7306766794388248417 : True:=⟨⟩
theorem tw7312760382523372010 : True:=⟨⟩
theorem tw7392804971871852969 : True:=⟨⟩
theorem tw7403722847308600102 : True:=⟨⟩
theorem tw7405059625324326976 : True:=⟨⟩
theorem tw7431162702514681528 : True:=⟨⟩
theorem tw7433216145726577470 : True:=⟨⟩
theorem tw7450104995674013241 : True:=⟨⟩
theorem tw7460613158995620592 : True:=⟨⟩
theorem tw7469800646657668639 : True:=⟨⟩
theorem tw7488619963408413321 : True:=⟨⟩
theorem tw7493496545988948567 : True:=⟨⟩
theorem tw7510392131581608094 : True:=⟨⟩
theorem tw7516005368776768275 : True:=⟨⟩
theorem tw7536396915242704620 : True:=⟨⟩
theorem tw7537464336058954072 : True:=⟨⟩
theorem tw7540436204278539098 : True:=⟨⟩
theorem tw7556203437458517160 : True:=⟨⟩
theorem tw7556978987737407408 : True:=⟨⟩
theorem tw7593215622597016206 : True:=⟨⟩
theorem tw7593691288788456804 : True:=⟨⟩
theorem tw7609676916836180508 : True:=⟨⟩
theorem tw7619480949758495342 : True:=⟨⟩
theorem tw7645811890501070985 : True:=⟨⟩
theorem tw7660284381181561142 : True:=⟨⟩
theorem tw7675650217425431539 : True:=⟨⟩
theorem tw7705932487843230584 : True:=⟨⟩
theorem tw7786072613093144289 : True:=⟨⟩
theorem tw7793792809072093149 : True:=⟨⟩
theorem tw7816257638102215473 : True:=⟨⟩
theorem tw7828330623914006521 : True:=⟨⟩
theorem tw7829772277577764522 : True:=⟨⟩
theorem tw783372843720203056 : True:=⟨⟩
theorem tw7843924992545880546 : True:=⟨⟩
theorem tw7853302068757891559 : True:=⟨⟩
theorem tw7857530988959539642 : True:=⟨⟩
theorem tw7859135926907600591 : True:=⟨⟩
theorem tw7869115815177825628 : True:=⟨⟩
theorem tw7894998444170353996 : True:=⟨⟩
theorem tw7906429060802443436 : True:=⟨⟩
theorem tw7949961445170379112 : True:=⟨⟩
theorem tw7963846655608878735 : True:=⟨⟩
theorem tw796663341401148848 : True:=⟨⟩
theorem tw7999341079774701321 : True:=⟨⟩
theorem tw8011201359826825873 : True:=⟨⟩
theorem tw8029593013449203424 : True:=⟨⟩
theorem tw8042245823145572586 : True:=⟨⟩
theorem tw8045225917941528873 : True:=⟨⟩
theorem tw8051611732638897380 : True:=⟨⟩
theorem tw8057680203162408676 : True:=⟨⟩
theorem tw8058124242986273624 : True:=⟨⟩
theorem tw8074362336599261500 : True:=⟨⟩
theorem tw8080594790544218255 : True:=⟨⟩
theorem tw8081238620831902108 : True:=⟨⟩
theorem tw810097002302734830 : True:=⟨⟩
theorem tw8161198356883494987 : True:=⟨⟩
theorem tw8168834016761119111 : True:=⟨⟩
theorem tw8187406642699796154 : True:=⟨⟩
theorem tw8203747246946318758 : True:=⟨⟩
theorem tw8239532144740614555 : True:=⟨⟩
theorem tw8254406887581396718 : True:=⟨⟩
theorem tw8307552487276351946 : True:=⟨⟩
theorem tw8309292829273937292 : True:=⟨⟩
theorem tw8313093732977005483 : True:=⟨⟩
theorem tw8323423549147112246 : True:=⟨⟩
theorem tw8338992618117654071 : True:=⟨⟩
theorem tw8405136172042465467 : True:=⟨⟩
theorem tw840664070675828454 : True:=⟨⟩
theorem tw844020262158305603 : True:=⟨⟩
theorem tw8485719624928974392 : True:=⟨⟩
theorem tw850001391332902379 : True:=⟨⟩
theorem tw8506832611354358780 : True:=⟨⟩
theorem tw8525816297102579958 : True:=⟨⟩
theorem tw8530685534091411884 : True:=⟨⟩
theorem tw8536424540694738181 : True:=⟨⟩
theorem tw8537078081055969103 : True:=⟨⟩
theorem tw8564907788736620182 : True:=⟨⟩
theorem tw8636683146678221441 : True:=⟨⟩
theorem tw8643453789371856584 : True:=⟨⟩
theorem tw8672064159811322440 : True:=⟨⟩
theorem tw8693498576632078334 : True:=⟨⟩
theorem tw8733842457215005664 : True:=⟨⟩
theorem tw8740656709671464442 : True:=⟨⟩
theorem tw8752093943150388854 : True:=⟨⟩
theorem tw8778609914948031439 : True:=⟨⟩
theorem tw8778697790345982732 : True:=⟨⟩
theorem tw880057016547718099 : True:=⟨⟩
theorem tw880361134644854677 : True:=⟨⟩
theorem tw8820584848344615508 : True:=⟨⟩
theorem tw8829888653722749858 : True:=⟨⟩
theorem tw8840516837771160923 : True:=⟨⟩
theorem tw8846907794625505094 : True:=⟨⟩
theorem tw8855035176740760273 : True:=⟨⟩
theorem tw8871485170165451954 : True:=⟨⟩
theorem tw8872134507654241706 : True:=⟨⟩
theorem tw8885567079221661899 : True:=⟨⟩
theorem tw8918885198346525425 : True:=⟨⟩
theorem tw8946633472305879491 : True:=⟨⟩
theorem tw8948929070586083815 : True:=⟨⟩
theorem tw8954354971742340516 : True:=⟨⟩
theorem tw9009550015206976234 : True:=⟨⟩
theorem tw9015002854368287482 : True:=⟨⟩
theorem tw9125704275188518732 : True:=⟨⟩
theorem tw91763870397281675 : True:=⟨⟩
theorem tw9228105524371790494 : True:=⟨⟩
theorem tw9254101376288312429 : True:=⟨⟩
theorem tw9258257372515655860 : True:=⟨⟩
theorem tw9277157926426143625 : True:=⟨⟩
theorem tw9278786767355123277 : True:=⟨⟩
theorem tw9340655715083212285 : True:=⟨⟩
theorem tw9345766270302219835 : True:=⟨⟩
theorem tw9347536279028776844 : True:=⟨⟩
theorem tw9371676377818100340 : True:=⟨⟩
theorem tw9378389801003436319 : True:=⟨⟩
theorem tw9383163460302029448 : True:=⟨⟩
theorem tw9400247148458977215 : True:=⟨⟩
theorem tw9411986150652296152 : True:=⟨⟩
theorem tw9425585502494394764 : True:=⟨⟩
theorem tw943361499405936622 : True:=⟨⟩
theorem tw9465365636158049413 : True:=⟨⟩
theorem tw9506546253672831931 : True:=⟨⟩
theorem tw9517233936518386013 : True:=⟨⟩
theorem tw9533618732335174238 : True:=⟨⟩
theorem tw9545570778379113110 : True:=⟨⟩
theorem tw955621619336667311 : True:=⟨⟩
theorem tw956293552240596930 : True:=⟨⟩
theorem tw9580692188944941676 : True:=⟨⟩
theorem tw9615564941204671053 : True:=⟨⟩
theorem tw9622239686292121344 : True:=⟨⟩
theorem tw963948590134644228 : True:=⟨⟩
theorem tw9660134706378779636 : True:=⟨⟩
theorem tw9681832831856868938 : True:=⟨⟩
theorem tw9685859867313971972 : True:=⟨⟩
theorem tw9688930891815596256 : True:=⟨⟩
theorem tw9720207994445842815 : True:=⟨⟩
theorem tw9723230249181824679 : True:=⟨⟩
theorem tw9765588306478260498 : True:=⟨⟩
theorem tw9793583642758464551 : True:=⟨⟩
theorem tw9795609744737071450 : True:=⟨⟩
theorem tw9825722724301961568 : True:=⟨⟩
theorem tw9842357893180056556 : True:=⟨⟩
theorem tw9860077739587400807 : True:=⟨⟩
theorem tw9861888477094357844 : True:=⟨⟩
theorem tw9862483639840220425 : True:=⟨⟩
theorem tw9866063240569055081 : True:=⟨⟩
theorem tw9870024369942136048 : True:=⟨⟩
theorem tw9884897994697575283 : True:=⟨⟩
theorem tw9886828212326335935 : True:=⟨⟩
theorem tw9887347674483842264 : True:=⟨⟩
theorem tw9890921227814079940 : True:=⟨⟩
theorem tw9894485150078256092 : True:=⟨⟩
theorem tw9895644853964609933 : True:=⟨⟩
theorem tw9898390439685822845 : True:=⟨⟩
theorem tw9904285730270362328 : True:=⟨⟩
theorem tw9904857893912653987 : True:=⟨⟩
theorem tw9954965760963093916 : True:=⟨⟩
theorem tw9968167077998093586 : True:=⟨⟩
theorem tw9980987834531562746 : True:=⟨⟩
end Mine.hx04
set_option Elab.async true
namespace Mine
theorem all_mem {α : Type} {l : List α} {p : α → Bool} (h : l.all p = true) : ∀ x ∈ l, p x = true := List.all_eq_true.mp h
abbrev psI : PsI := ⟨⟨8, 8, 8, 13⟩, ⟨8, 8, 8, 15⟩, ⟨8, 8, 8, 24⟩, ⟨8, 25, 8, 29⟩, ⟨8, 8, 8, 30⟩, ⟨8, 8, 8, 30⟩, ⟨9, 8, 9, 12⟩, ⟨9, 8, 9, 17⟩, ⟨9, 20, 9, 24⟩, ⟨9, 8, 9, 24⟩, ⟨10, 8, 10, 12⟩, ⟨10, 8, 10, 18⟩, ⟨10, 21, 10, 26⟩, ⟨10, 8, 10, 26⟩⟩
theorem hx04 : PySem.Challenge.rw_ui0504_04.Holds := by
  w_on; o_law; k_head; (case hw => w_witness2)
  have tab : ∀ P : Params, TabOk (hx04.heap_1_39 P) G := fun P => ⟨by kernel_rfl, all_mem (p := fun q : Nat × CI => clsOk (hx04.heap_1_39 P) q.1 q.2) (by kernel_rfl), all_mem (p := fun q : Nat × FI => fnOk (hx04.heap_1_39 P) q.1 q.2) (by kernel_rfl), all_mem (p := fun q : Nat × List AV => topOk (hx04.heap_1_39 P) q.1 q.2) (by kernel_rfl)⟩
  have xt : ∀ P : Params, ExT (hx04.heap_1_39 P) PySem.Challenge.rw_ui0504_04.row.prog 48 38 psI := fun P => by
    refine ⟨?_, ?_, ?_, ?_, ?_, ?_, ?_, ?_, ?_, ?_, ?_, ?_, ?_, ?_, ?_, ?_, ?_, ?_, ?_, ?_, fun a b d S => ?_, ?_, ?_⟩ <;> kernel_rfl
  have xc : ∀ P : Params, ExC (hx04.heap_1_39 P) 48 48 38 := fun P => by
    refine ⟨?_, ?_, ?_, ?_, ?_, fun self => ?_, ?_, ?_, ?_, ?_, ?_, ?_, ?_, ?_, ?_, ?_, ?_, ?_, ?_, ?_, ?_, ?_, ?_, ?_, ?_⟩ <;> kernel_rfl
  k_fill
  intro w s₀ s₁ mg mb G' y fa o pm cd doc dV kV ho hd hcd hD hmg hg args vals as hpre hlay hrd hwl hlo
  have KX := kIn_of y
  refine Ground.open G' ?_
  intro T B D TE TW
  wrow_args hpre hlay hrd hwl hlo
  rename_i ns _ _ _ _ _ _ _ L _ _ _ _ wl _ _ _ hlen _
  clear hd hcd hD B D TE TW
  have hfa : fa = lawAt := by
    have h1 := mg_of KX T.g (show nsIn (hx04.heap_1_39 w.params) mainGlobals (Str.ofString "law") = some (some (.ref lawAt)) by kernel_rfl)
    have h2 := hmg.symm.trans h1
    injection h2 with h2
    injection h2
  subst hfa
  have hsys : Live s₁.heap sysModules := by
    obtain ⟨mm, h, _⟩ := (T.seer (by kernel_rfl)).mods
    exact live_ns h
  have ok : Ok ⟨PySem.Challenge.rw_ui0504_04.row.prog, w, hx04.heap_1_39 w.params, s₁.heap, G⟩ := Ok.of KX T.nolimit T.g T.b T.builtins hsys (tab _)
  obtain ⟨_, T', he, rfl⟩ := law04 ok rfl ⟨_, _, xc _, xt _⟩ (d := 10) (ns := ns) (by omega)
  refine law_call (c := ⟨PySem.Challenge.rw_ui0504_04.row.prog, w, hx04.heap_1_39 w.params, s₁.heap, G⟩) rfl wl he ?_ rfl fun h' t' kp => GoodW.toG ?_
  · exact ⟨by show 1 + claimMargin + 4 * 23 < 900; unfold claimMargin; omega, by show 4 + 20 * 23 < 9000; omega, rfl⟩
  · refine ⟨.inl ⟨.bool true, .bool true, [], rfl, ?_, .bool true, ?_, ?_⟩, kp, rfl, hg⟩
    · intro cls; rfl
    · kernel_rfl
    · exact fun _ => ⟨.nil, fun _ ha => nomatch ha⟩
end Mine
end
theorem PySem.Challenge.cw_ui0504_04_holds : PySem.Challenge.rw_ui0504_04.Holds :=
  Mine.hx04

