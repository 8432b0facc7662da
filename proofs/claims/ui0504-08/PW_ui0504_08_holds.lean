import PyProof.Rows.All
import Wide.All
import OpenK.AllK
import PySem.Value
import KE.KDictSum
import KE.KDictOf
import KE.KIntText
import PySem.Challenge.RW_ui0504_08
set_option Elab.async false
set_option linter.unusedVariables false
set_option genSizeOf false
set_option genInjectivity false
set_option maxRecDepth 100000
theorem Mine.lb {n m : Nat} (h : Nat.ble n m = true) : n ≤ m := Nat.le_of_ble_eq_true h
section
namespace Mine
inductive Ty where | str | int | tuple | list | dict | bool | type | range
inductive Bf where | len | sorted | max
inductive AV where
 | none | bool (b : Bool) | int (i : Int) | str (s : List Nat) | ref (r : Nat) | obj (a : Nat) | typ (t : Ty) | bi (f : Bf)
inductive AO where
 | inst (C : Nat) (fs : List (Nat × AV))
 | dict (es : List (AV × AV)) (ep : Nat)
 | list (xs : List AV)
 | tuple (xs : List AV)
 | range (lo hi : Int)
 | exc (C : Nat) (fs : List (Nat × AV))
inductive Bop where | add | sub | mul | mod | fdiv
inductive Cop where | eq | ne | lt | le | gt | ge | is | isnt | isin | notin
mutual
inductive PE where
 | none | bool (b : Bool) | int (i : Int) | str (s : List Nat) | bad
 | loc (x : Nat) | glb (x : Nat)
 | attr (o : PE) (a : Nat)
 | call (f : PE) (args : PEs)
 | meth (o : PE) (m : Nat) (args : PEs)
 | bin (op : Bop) (l r : PE) | cmp (op : Cop) (l r : PE) | cmp2 (a : PE) (o1 : Cop) (b : PE) (o2 : Cop) (c : PE)
 | and (l : PEs) | or (l : PEs) | not (e : PE) | neg (e : PE)
 | sub (o i : PE) | slice (o : PE) (up : Bool) (i : PE)
 | list (l : PEs) | tuple (l : PEs) | dict (l : PEs)
 | listc (elt : PE) (xs : List Nat) (it : PE) (ifs : PEs)
 | dictc (k v : PE) (x : Nat) (it : PE) (ifs : PEs)
 | setc (elt : PE) (x : Nat) (it : PE) (ifs : PEs)
inductive PEs where
 | nil
 | cons (e : PE) (l : PEs)
end
mutual
inductive PS where
 | expr (e : PE) | ret (e : PE) | ret0 | asg (x : Nat) (e : PE) | asgA (o : PE) (a : Nat) (e : PE) | asgS (o i e : PE) | asgT (xs : List Nat) (e : PE) | asgW (xs : List Nat) (e : PE) | asgC (x : Nat) (v : PE) (xs : List Nat) (it : PE) (ifs : PEs)
 | delS (o i : PE) | ite (t : PE) (b e : PSs) | whl (t : PE) (b : PSs) | for1 (xs : List Nat) (it : PE) (b : PSs)
 | raise (e : PE) | reraise | try (b : PSs) (cls : Nat) (nm : Nat) (h : PSs) | pass | bad
inductive PSs where
 | nil
 | cons (s : PS) (l : PSs)
end


structure FI where
 params : List Nat
 dfl : List AV
 body : PSs
structure CI where
 meths : List (Nat × Nat)
 flds : List Nat
structure Tab where
 fns : List (Nat × FI)
 cls : List (Nat × CI)
 glb : List (Nat × AV)
 top : List (Nat × List AV)
noncomputable abbrev Loc := List (Nat × AV)
noncomputable def lk {α : Type} (l : List (Nat × α)) (x : Nat) : Option α := @List.rec _ (fun _ => Option α) none (fun p _ r => cond (Nat.beq p.1 x) (some p.2) r) l
noncomputable def pt {α : Type} (l : List (Nat × α)) (x : Nat) (v : α) : List (Nat × α) := @List.rec _ (fun _ => List (Nat × α)) [(x, v)] (fun p t r => cond (Nat.beq p.1 x) ((p.1, v) :: t) (p :: r)) l
theorem beq_no {a b : Nat} (h : a ≠ b) : Nat.beq a b = false := Bool.eq_false_iff.mpr fun e => h (Nat.eq_of_beq_eq_true e)
theorem lk_cons {α : Type} (k : Nat) (w : α) (r : List (Nat × α)) (x : Nat) : lk ((k, w) :: r) x = if k = x then some w else lk r x := by
 show cond (Nat.beq k x) (some w) (lk r x) = _
 by_cases h : k = x
 ·rw [if_pos h, h, Nat.beq_refl]; rfl
 ·rw [if_neg h, beq_no h]; rfl
theorem pt_cons {α : Type} (k : Nat) (w : α) (r : List (Nat × α)) (x : Nat) (v : α) : pt ((k, w) :: r) x v = if k = x then (k, v) :: r else (k, w) :: pt r x v := by
 show cond (Nat.beq k x) ((k, v) :: r) ((k, w) :: pt r x v) = _
 by_cases h : k = x
 ·rw [if_pos h, h, Nat.beq_refl]; rfl
 ·rw [if_neg h, beq_no h]; rfl
theorem lk_pt {α : Type} (l : List (Nat × α)) (x : Nat) (v : α) (y : Nat) : lk (pt l x v) y = if y = x then some v else lk l y := by
 induction l with
 | nil =>
  show lk [(x, v)] y = _
  rw [lk_cons]
  by_cases h : x = y
  ·rw [if_pos h, if_pos h.symm]
  ·rw [if_neg h, if_neg (Ne.symm h)]
 | cons p r ih =>
  obtain ⟨k, w⟩ := p
  rw [pt_cons]
  by_cases h : k = x
  ·subst h
   rw [if_pos rfl, lk_cons, lk_cons]
   by_cases q : k = y
   ·rw [if_pos q, if_pos q.symm]
   ·rw [if_neg q, if_neg (Ne.symm q), if_neg q]
  ·rw [if_neg h, lk_cons, lk_cons, ih]
   by_cases q : k = y
   ·subst q; rw [if_pos rfl, if_pos rfl, if_neg h]
   ·rw [if_neg q, if_neg q]
noncomputable def dec (f : Nat) : Nat → List Nat := @Nat.rec (fun _ => Nat → List Nat) (fun _ => []) (fun _ ih c => cond (Nat.beq c 0) [] (((c - 1) % 256) :: ih ((c - 1) / 256))) f
noncomputable def nm (c : Nat) : List Nat := dec c c
structure Hp where
 m : Nat → Option AO
 n : Nat
noncomputable def Hp.get (T : Hp) (r : Nat) : Option AO := if r < T.n then T.m r else none
noncomputable def hnew (T : Hp) (o : AO) : Hp := ⟨fun r => if r = T.n then some o else T.m r, T.n + 1⟩
noncomputable def hput (T : Hp) (r : Nat) (o : AO) : Hp := ⟨fun x => if x = r then some o else T.m x, T.n⟩
theorem lt_of_get {T : Hp} {r : Nat} {o : AO} (h : T.get r = some o) : r < T.n := by
 unfold Hp.get at h
 by_cases q : r < T.n
 ·exact q
 ·rw [if_neg q] at h; cases h
theorem get_hnew (T : Hp) (o : AO) (r : Nat) : (hnew T o).get r = if r = T.n then some o else T.get r := by
 show (if r < T.n + 1 then (if r = T.n then some o else T.m r) else none) = if r = T.n then some o else if r < T.n then T.m r else none
 by_cases q : r = T.n
 ·rw [if_pos q, if_pos q, if_pos (by rw [q]; exact Nat.lt_succ_self _)]
 ·rw [if_neg q, if_neg q]
  by_cases p : r < T.n
  ·rw [if_pos p, if_pos (Nat.lt_succ_of_lt p)]
  ·rw [if_neg p, if_neg fun z => (Nat.lt_succ_iff_lt_or_eq.mp z).elim p q]
theorem get_new (T : Hp) (o : AO) : (hnew T o).get T.n = some o := by rw [get_hnew, if_pos rfl]
theorem get_old {T : Hp} {o a : AO} {r : Nat} (h : T.get r = some a) : (hnew T o).get r = some a := by rw [get_hnew, if_neg (Nat.ne_of_lt (lt_of_get h))]; exact h
theorem get_hput (T : Hp) (o : AO) (r x : Nat) (lt : r < T.n) : (hput T r o).get x = if x = r then some o else T.get x := by
 show (if x < T.n then (if x = r then some o else T.m x) else none) = if x = r then some o else if x < T.n then T.m x else none
 by_cases q : x = r
 ·rw [if_pos q, if_pos q, if_pos (by rw [q]; exact lt)]
 ·rw [if_neg q, if_neg q]
theorem get_put {T : Hp} {o a : AO} {r : Nat} (h : T.get r = some a) : (hput T r o).get r = some o := by rw [get_hput T o r r (lt_of_get h), if_pos rfl]
theorem get_ne {T : Hp} {o a b : AO} {r x : Nat} (h : T.get r = some a) (ne : x ≠ r) (g : T.get x = some b) : (hput T r o).get x = some b := by rw [get_hput T o r x (lt_of_get h), if_neg ne]; exact g
end Mine
end
section
open PySem PySem.W PyProof.Rows
namespace Mine
noncomputable abbrev S (l : List Nat) : Str := ⟨l.toArray⟩
noncomputable abbrev nmS (c : Nat) : Str := S (nm c)

noncomputable def enc (l : List Nat) : Nat := @List.rec Nat (fun _ => Nat) 0 (fun d _ r => r * 256 + d + 1) l
theorem enc_dec (f : Nat) : ∀ c : Nat, c ≤ f → enc (dec f c) = c := by
 induction f with
 | zero => intro c h; rw [Nat.le_zero.mp h]; rfl
 | succ f ih =>
  intro c h
  show enc (cond (Nat.beq c 0) [] (((c - 1) % 256) :: dec f ((c - 1) / 256))) = c
  by_cases hc : c = 0
  ·subst hc; rfl
  ·rw [beq_no hc]
   show enc (dec f ((c - 1) / 256)) * 256 + (c - 1) % 256 + 1 = c
   rw [ih _ (by omega)]
   omega
theorem nm_inj {a b : Nat} (h : nm a = nm b) : a = b := by
 have := congrArg enc h
 unfold nm at this
 rwa [enc_dec _ _ (Nat.le_refl _), enc_dec _ _ (Nat.le_refl _)] at this
theorem S_inj {a b : List Nat} (h : S a = S b) : a = b := by injection h with h; exact congrArg Array.toList h
theorem nmS_inj {a b : Nat} (h : nmS a = nmS b) : a = b := nm_inj (S_inj h)

noncomputable def Ty.nm : Ty → String
 | .str => "str" | .int => "int" | .tuple => "tuple" | .list => "list" | .dict => "dict" | .bool => "bool" | .type => "type" | .range => "range"
noncomputable def Bf.id : Bf → String
 | .len => "len" | .sorted => "sorted" | .max => "max"

noncomputable def VR (n : Nat) (ρ : Nat → Addr) : AV → Value → Prop
 | .none, v => v = .none
 | .bool b, v => v = .bool b
 | .int i, v => ∃ t, v = .int i t
 | .str s, v => ∃ t, v = .str (S s) t
 | .ref r, v => r < n ∧ v = .ref (ρ r)
 | .obj a, v => v = .ref a
 | .typ t, v => v = .type t.nm
 | .bi f, v => v = .builtin f.id
noncomputable def VRs (n : Nat) (ρ : Nat → Addr) : List AV → List Value → Prop
 | [], [] => True
 | a :: as, v :: vs => VR n ρ a v ∧ VRs n ρ as vs
 | _, _ => False
theorem VR.up {n n' : Nat} {ρ ρ' : Nat → Addr} (hn : n ≤ n') (hr : ∀ i, i < n → ρ' i = ρ i) : ∀ {a : AV} {v : Value}, VR n ρ a v → VR n' ρ' a v
 | .ref r, v, ⟨h1, h2⟩ => ⟨Nat.lt_of_lt_of_le h1 hn, by rw [hr r h1]; exact h2⟩
 | .none, _, h | .bool _, _, h | .int _, _, h | .str _, _, h | .obj _, _, h | .typ _, _, h | .bi _, _, h => h
theorem VRs.up {n n' : Nat} {ρ ρ' : Nat → Addr} (hn : n ≤ n') (hr : ∀ i, i < n → ρ' i = ρ i) {a : List AV} {v : List Value} (h : VRs n ρ a v) : VRs n' ρ' a v := by
 induction a generalizing v with
 | nil => cases v with
  | nil => trivial
  | cons => exact h.elim
 | cons x a ih => cases v with
  | nil => exact h.elim
  | cons y v => exact ⟨VR.up hn hr h.1, ih h.2⟩
noncomputable def FsR (n : Nat) (ρ : Nat → Addr) : List (Nat × AV) → List DictEntry → Prop
 | [], [] => True
 | (k, a) :: as, e :: es => (∃ t, e.key = .str (nmS k) t) ∧ VR n ρ a e.val ∧ FsR n ρ as es
 | _, _ => False
noncomputable def KR {K : Type} (n : Nat) (ρ : Nat → Addr) (is : AV → K → Prop) : List (AV × AV) → List (K × Value) → Prop
 | [], [] => True
 | (k, a) :: as, (x, v) :: es => is k x ∧ VR n ρ a v ∧ KR n ρ is as es
 | _, _ => False
noncomputable def isS : AV → Str → Prop
 | .str s, x => x = S s
 | _, _ => False
noncomputable def isI : AV → Int → Prop
 | .int i, x => x = i
 | _, _ => False
theorem FsR.up {n n' : Nat} {ρ ρ' : Nat → Addr} (hn : n ≤ n') (hr : ∀ i, i < n → ρ' i = ρ i) {a : List (Nat × AV)} {v : List DictEntry} (h : FsR n ρ a v) : FsR n' ρ' a v := by
 induction a generalizing v with
 | nil => cases v with
  | nil => trivial
  | cons => exact h.elim
 | cons x a ih => cases v with
  | nil => exact h.elim
  | cons y v => exact ⟨h.1, VR.up hn hr h.2.1, ih h.2.2⟩
theorem KR.up {K : Type} {is : AV → K → Prop} {n n' : Nat} {ρ ρ' : Nat → Addr} (hn : n ≤ n') (hr : ∀ i, i < n → ρ' i = ρ i) {a : List (AV × AV)} {v : List (K × Value)} (h : KR n ρ is a v) : KR n' ρ' is a v := by
 induction a generalizing v with
 | nil => cases v with
  | nil => trivial
  | cons => exact h.elim
 | cons x a ih => cases v with
  | nil => exact h.elim
  | cons y v => exact ⟨h.1, VR.up hn hr h.2.1, ih h.2.2⟩
structure Cx where
 prog : Program
 w : World
 K : Frag
 hb : Heap
 G : Tab

noncomputable def DR (c : Cx) (n : Nat) (ρ : Nat → Addr) (h : Heap) (a : Addr) (es : List (AV × AV)) (ep : Nat) : Prop :=
 (a == sysModules) = false ∧ ((∃ kvs, h.DictAt (strKind c.prog c.w) a kvs ep ∧ KR n ρ isS es kvs) ∨ (∃ kvs, h.DictAt (intKind c.prog c.w) a kvs ep ∧ KR n ρ isI es kvs))
theorem DR.up {c : Cx} {n n' : Nat} {ρ ρ' : Nat → Addr} (hn : n ≤ n') (hr : ∀ i, i < n → ρ' i = ρ i) {h h' : Heap} {a : Addr} (ka : ∀ o, h.get? a = some o → h'.get? a = some o) {es : List (AV × AV)} {ep : Nat} (x : DR c n ρ h a es ep) : DR c n' ρ' h' a es ep := by
 obtain ⟨x, ⟨kvs, y, z⟩ | ⟨kvs, y, z⟩⟩ := x
 ·exact ⟨x, .inl ⟨kvs, y.at' ka, z.up hn hr⟩⟩
 ·exact ⟨x, .inr ⟨kvs, y.at' ka, z.up hn hr⟩⟩
noncomputable def OR (c : Cx) (n : Nat) (ρ : Nat → Addr) (h : Heap) (a d : Addr) : AO → Prop
 | .inst C fs => h.get? a = some (instObj C d) ∧ ∃ es k, h.get? d = some (dictOf es k) ∧ FsR n ρ fs es
 | .dict es ep => DR c n ρ h a es ep
 | .list xs => ∃ vs k, h.get? a = some (listOf vs.toArray k) ∧ VRs n ρ xs vs
 | .tuple xs => ∃ vs k, h.get? a = some { cls := .type "tuple", data := .seq vs.toArray k } ∧ VRs n ρ xs vs
 | .range lo hi => ∃ t1 t2 t3, h.get? a = some { cls := .type "range", data := .fields #[.int lo t1, .int hi t2, .int 1 t3] }
 | .exc C fs => (∃ o ws, h.get? a = some o ∧ o.cls = .ref C ∧ o.dict = some d ∧ o.data = .fields ws) ∧ ∃ es k, h.get? d = some (dictOf es k) ∧ FsR n ρ fs es
theorem OR.up {c : Cx} {n n' : Nat} {ρ ρ' : Nat → Addr} (hn : n ≤ n') (hr : ∀ i, i < n → ρ' i = ρ i) {h h' : Heap} {a d : Addr} (ka : ∀ o, h.get? a = some o → h'.get? a = some o) (kd : ∀ o, h.get? d = some o → h'.get? d = some o) :
  ∀ {o : AO}, OR c n ρ h a d o → OR c n' ρ' h' a d o
 | .inst _ _, ⟨h1, es, k, h2, h3⟩ => ⟨ka _ h1, es, k, kd _ h2, h3.up hn hr⟩
 | .dict _ _, x => DR.up hn hr ka x
 | .list _, ⟨vs, k, h1, h2⟩ => ⟨vs, k, ka _ h1, h2.up hn hr⟩
 | .tuple _, ⟨vs, k, h1, h2⟩ => ⟨vs, k, ka _ h1, h2.up hn hr⟩
 | .range _ _, ⟨t1, t2, t3, h1⟩ => ⟨t1, t2, t3, ka _ h1⟩
 | .exc _ _, ⟨⟨o, ws, h1, r⟩, es, k, h2, h3⟩ => ⟨⟨o, ws, ka _ h1, r⟩, es, k, kd _ h2, h3.up hn hr⟩

noncomputable abbrev Live (h : Heap) (a : Addr) : Prop := ∃ o, h.get? a = some o
theorem dead_ne {h : Heap} {a b : Addr} (x : Live h a) (y : h.get? b = none) : a ≠ b := fun e => by
 obtain ⟨o, q⟩ := x
 rw [e, y] at q; cases q
theorem dead_end (h : Heap) {a : Addr} (l : h.objs.size ≤ a) : h.get? a = none := by
 cases q : h.get? a with
 | none => rfl
 | some o => exact absurd (Nat.lt_of_lt_of_le (Heap.lt_size q) l) (Nat.lt_irrefl _)
noncomputable def Off (c : Cx) (ρ δ : Nat → Addr) (n : Nat) (a : Addr) : Prop := ∀ i, 1 ≤ i → i < n → ρ i ≠ a ∧ δ i ≠ a
structure HR (c : Cx) (ρ δ : Nat → Addr) (T : Hp) (n : Nat) (h : Heap) : Prop where
 base : ∀ b o, c.hb.get? b = some o → h.get? b = some o
 obj : ∀ i o, T.get i = some o → i < n ∧ OR c n ρ h (ρ i) (δ i) o
 new : ∀ i, 1 ≤ i → i < n → c.hb.get? (ρ i) = none ∧ c.hb.get? (δ i) = none
 apart : ∀ i j, i < n → j < n → i ≠ j → ρ i ≠ ρ j ∧ ρ i ≠ δ j ∧ δ i ≠ δ j
 liv : ∀ i, i < n → Live h (ρ i) ∧ Live h (δ i)
 ro : 1 ≤ n
 old : ∀ i, i < 1 → Live c.hb (ρ i) ∧ Live c.hb (δ i)
structure Go (c : Cx) (X : Addr → Prop) (ρ δ : Nat → Addr) (n : Nat) (h : Heap) (ρ' δ' : Nat → Addr) (n' : Nat) (h' : Heap) : Prop where
 le : n ≤ n'
 same : ∀ i, i < n → ρ' i = ρ i ∧ δ' i = δ i
 fresh : ∀ i, n ≤ i → i < n' → h.get? (ρ' i) = none ∧ h.get? (δ' i) = none
 keep : ∀ b o, h.get? b = some o → Off c ρ δ n b → ¬ X b → ∃ sl, h'.get? b = some { o with slots := sl } ∧ ((∃ es k, o.data = .dict es k) ∨ sl = o.slots)
 live : ∀ b, Live h b → Live h' b
noncomputable abbrev No : Addr → Prop := fun _ => False
section
variable {c : Cx} {X Y : Addr → Prop} {ρ δ ρ' δ' ρ'' δ'' : Nat → Addr} {n n' n'' : Nat} {h h' h'' : Heap}
theorem Go.refl : Go c X ρ δ n h ρ δ n h :=
 ⟨Nat.le_refl _, fun _ _ => ⟨rfl, rfl⟩, fun i h1 h2 => absurd h2 (Nat.not_lt.mpr h1), fun _ o e _ _ => ⟨o.slots, e, .inr rfl⟩, fun _ x => x⟩
theorem Go.weak (g : Go c X ρ δ n h ρ' δ' n' h') (k : ∀ a, Live h a → X a → Y a) : Go c Y ρ δ n h ρ' δ' n' h' := ⟨g.le, g.same, g.fresh, fun b o e x y => g.keep b o e x fun z => y (k b ⟨o, e⟩ z), g.live⟩
theorem Go.any (g : Go c No ρ δ n h ρ' δ' n' h') : Go c Y ρ δ n h ρ' δ' n' h' := g.weak fun _ _ z => z.elim
theorem Go.off (g : Go c X ρ δ n h ρ' δ' n' h') {a : Addr} (x : Off c ρ δ n a) (hl : Live h a) : Off c ρ' δ' n' a := fun i h1 h2 => by
 by_cases q : i < n
 ·rw [(g.same i q).1, (g.same i q).2]; exact x i h1 q
 ·have := g.fresh i (Nat.not_lt.mp q) h2
  exact ⟨Ne.symm (dead_ne hl this.1), Ne.symm (dead_ne hl this.2)⟩
theorem Go.dead (g : Go c X ρ δ n h ρ' δ' n' h') {a : Addr} (x : h'.get? a = none) : h.get? a = none := by
 cases q : h.get? a with
 | none => rfl
 | some o => obtain ⟨o', e⟩ := g.live a ⟨o, q⟩; rw [x] at e; cases e
theorem Go.trans (g : Go c X ρ δ n h ρ' δ' n' h') (g' : Go c X ρ' δ' n' h' ρ'' δ'' n'' h'') : Go c X ρ δ n h ρ'' δ'' n'' h'' where
 le := Nat.le_trans g.le g'.le
 same := fun i q => by
  have q' := Nat.lt_of_lt_of_le q g.le
  rw [(g'.same i q').1, (g'.same i q').2]; exact g.same i q
 fresh := fun i h1 h2 => by
  by_cases q : i < n'
  ·rw [(g'.same i q).1, (g'.same i q).2]; exact g.fresh i h1 q
  ·have := g'.fresh i (Nat.not_lt.mp q) h2
   exact ⟨g.dead this.1, g.dead this.2⟩
 keep := fun b o e x y => let ⟨_, e1, d1⟩ := g.keep b o e x y; let ⟨sl, e2, d2⟩ := g'.keep b _ e1 (g.off x ⟨o, e⟩) y; ⟨sl, e2, d2.elim .inl fun q => d1.imp id q.trans⟩
 live := fun b x => g'.live b (g.live b x)
theorem Go.vr (g : Go c X ρ δ n h ρ' δ' n' h') {a : AV} {v : Value} (x : VR n ρ a v) : VR n' ρ' a v := x.up g.le fun i q => (g.same i q).1
theorem Go.exact (g : Go c X ρ δ n h ρ' δ' n' h') {b : Addr} {o : Obj} (e : h.get? b = some o) (x : Off c ρ δ n b) (y : ¬ X b) (nd : ∀ es k, o.data ≠ .dict es k) : h'.get? b = some o := by
 obtain ⟨sl, q, ⟨es, k, z⟩ | rfl⟩ := g.keep b o e x y
 ·exact absurd z (nd es k)
 ·exact q
theorem Go.of_keeps (k : ∀ b o, h.get? b = some o → h'.get? b = some o) : Go c X ρ δ n h ρ δ n h' :=
 ⟨Nat.le_refl _, fun _ _ => ⟨rfl, rfl⟩, fun i h1 h2 => absurd h2 (Nat.not_lt.mpr h1), fun b o e _ _ => ⟨o.slots, k b o e, .inr rfl⟩, fun b ⟨o, e⟩ => ⟨o, k b o e⟩⟩
theorem Go.of_ext {a : Addr} (k : Heap.ExtBut a h h') (l : Live h a → Live h' a) (x : X a) : Go c X ρ δ n h ρ δ n h' :=
 ⟨Nat.le_refl _, fun _ _ => ⟨rfl, rfl⟩, fun i h1 h2 => absurd h2 (Nat.not_lt.mpr h1), fun b o e _ y => ⟨o.slots, k b o (fun q => y (q ▸ x)) e, .inr rfl⟩, fun b z => by
  by_cases q : b = a
  ·subst q; exact l z
  ·obtain ⟨o, e⟩ := z; exact ⟨o, k b o q e⟩⟩
end
theorem HR.of_keeps {c : Cx} {ρ δ : Nat → Addr} {T : Hp} {n : Nat} {h h' : Heap} (x : HR c ρ δ T n h) (k : ∀ b o, h.get? b = some o → h'.get? b = some o) : HR c ρ δ T n h' where
 base := fun b o e => k b o (x.base b o e)
 obj := fun i o e => ⟨(x.obj i o e).1, (x.obj i o e).2.up (Nat.le_refl _) (fun _ _ => rfl) (k _) (k _)⟩
 new := x.new
 apart := x.apart
 liv := fun i q => ⟨let ⟨o, e⟩ := (x.liv i q).1; ⟨o, k _ _ e⟩, let ⟨o, e⟩ := (x.liv i q).2; ⟨o, k _ _ e⟩⟩
 ro := x.ro
 old := x.old
theorem HR.of_ext {c : Cx} {ρ δ : Nat → Addr} {T : Hp} {n : Nat} {h h' : Heap} {a : Addr} (x : HR c ρ δ T n h) (k : Heap.ExtBut a h h') (off : Off c ρ δ n a) (hb : c.hb.get? a = none) : HR c ρ δ T n h' := by
 have ne : ∀ i, i < n → ρ i ≠ a ∧ δ i ≠ a := fun i hi => by
  by_cases r : 1 ≤ i
  ·exact off i r hi
  ·have := x.old i (Nat.not_le.mp r)
   exact ⟨dead_ne this.1 hb, dead_ne this.2 hb⟩
 refine ⟨fun b o e => k b o (dead_ne ⟨o, e⟩ hb) (x.base b o e), fun i o e => ?_, x.new, x.apart, fun i q => ?_, x.ro, x.old⟩
 ·have q := x.obj i o e
  exact ⟨q.1, q.2.up (Nat.le_refl _) (fun _ _ => rfl) (fun o e => k _ o (ne i q.1).1 e) (fun o e => k _ o (ne i q.1).2 e)⟩
 ·obtain ⟨⟨o1, e1⟩, ⟨o2, e2⟩⟩ := x.liv i q
  exact ⟨⟨o1, k _ _ (ne i q).1 e1⟩, ⟨o2, k _ _ (ne i q).2 e2⟩⟩

structure FR (c : Cx) (ρ δ : Nat → Addr) (n : Nat) (loc : Loc) (env : Env) (h : Heap) : Prop where
 kind : env.scope.kind = .function
 glo : env.globals = mainGlobals
 bui : env.builtins = builtinsNs
 offL : Off c ρ δ n env.locals
 hbL : c.hb.get? env.locals = none
 offC : ∀ x a, env.cells.lookup x = some a → Off c ρ δ n a ∧ a ≠ env.locals ∧ Live h a
 hbC : ∀ x a, env.kindOf x = some .cell → env.cells.lookup x = some a → c.hb.get? a = none
 inj : ∀ x y a, env.cells.lookup x = some a → env.cells.lookup y = some a → x = y
 ns : ∃ m, h.Ns env.locals m ∧ ∀ x v, lk loc x = some v → env.kindOf (nmS x) = some .local → ∃ val, m (nmS x) = some val ∧ VR n ρ v val
 cel : ∀ x v, lk loc x = some v → env.kindOf (nmS x) = some .cell ∨ env.kindOf (nmS x) = some .free → ∃ a val, env.cells.lookup (nmS x) = some a ∧ h.IsCell a (some val) ∧ VR n ρ v val
 celE : ∀ x, env.kindOf (nmS x) = some .cell → ∃ a v, env.cells.lookup (nmS x) = some a ∧ h.IsCell a v
theorem live_ns {h : Heap} {a : Addr} {m : Str → Option Value} (x : h.Ns a m) : Live h a := let ⟨o, _, _, e, _⟩ := x; ⟨o, e⟩
theorem live_cell {h : Heap} {a : Addr} {v : Option Value} (x : h.IsCell a v) : Live h a := let ⟨o, e, _⟩ := x; ⟨o, e⟩
theorem FR.go {c : Cx} {X : Addr → Prop} {ρ δ ρ' δ' : Nat → Addr} {n n' : Nat} {h h' : Heap} {loc : Loc} {env : Env} (f : FR c ρ δ n loc env h) (g : Go c X ρ δ n h ρ' δ' n' h') (hx : ∀ a, a = env.locals ∨ (∃ x, env.cells.lookup x = some a) → ¬ X a := by exact fun _ _ z => z) : FR c ρ' δ' n' loc env h' := by
 obtain ⟨m, hm, hv⟩ := f.ns
 have kc : ∀ {x a v}, env.cells.lookup x = some a → h.IsCell a v → h'.IsCell a v := fun {x a v} e ⟨o, ho, hd⟩ => let ⟨_, q, _⟩ := g.keep a o ho (f.offC x a e).1 (hx a (.inr ⟨x, e⟩)); ⟨_, q, hd⟩
 refine ⟨f.kind, f.glo, f.bui, g.off f.offL (live_ns hm), f.hbL, ?_, f.hbC, f.inj, ⟨m, ?_, fun x v e k => ?_⟩, fun x v e k => ?_, fun x k => ?_⟩
 ·exact fun x a e => ⟨g.off (f.offC x a e).1 (f.offC x a e).2.2, (f.offC x a e).2.1, g.live a (f.offC x a e).2.2⟩
 ·obtain ⟨o, es, ep, ho, r⟩ := hm
  obtain ⟨_, q, _⟩ := g.keep _ o ho f.offL (hx _ (.inl rfl))
  exact ⟨_, es, ep, q, r⟩
 ·obtain ⟨val, a, b⟩ := hv x v e k
  exact ⟨val, a, g.vr b⟩
 ·obtain ⟨a, val, q, i, r⟩ := f.cel x v e k
  exact ⟨a, val, q, kc q i, g.vr r⟩
 ·obtain ⟨a, v, q, i⟩ := f.celE x k
  exact ⟨a, v, q, kc q i⟩

end Mine
end
section
open PySem PySem.W PyProof.Rows
namespace Mine
noncomputable abbrev Kd := Str → Option NameKind
noncomputable def Bop.op : Bop → Operator
 | .add => .Add | .sub => .Sub | .mul => .Mult | .mod => .Mod | .fdiv => .FloorDiv
noncomputable def Cop.op : Cop → CmpOp
 | .eq => .Eq | .ne => .NotEq | .lt => .Lt | .le => .LtE | .gt => .Gt | .ge => .GtE | .is => .Is | .isnt => .IsNot | .isin => .In | .notin => .NotIn
noncomputable def own? (k : Option NameKind) : Bool := match k with
 | some .local => true | some .cell => true | some .free => true | _ => false
noncomputable def isDbg (x : Str) : Bool := x == ("__debug__" : Str) || x == ("__classdict__" : Str)
noncomputable def notSuper : Expr → Bool
 | .Call (.Name id _) [] [] _ => id != ("super" : Str)
 | _ => true
noncomputable def kdC (kd : Kd) (scope : Scope) : Kd := fun x => (scope.names.map fun p => if (p.2 == NameKind.free && kd p.1 == some .cell) then (p.1, NameKind.cell) else p).lookup x
noncomputable def cellish (k : Option NameKind) (x : Str) : Bool := k == some .cell && nmS (enc x.cps.toList) == x
noncomputable def compOk (kd : Kd) (scope : Scope) (xs : List Nat) : Bool :=
 scope.kind == .function && scope.names.all (fun p => p.2 != .cell && (p.2 != .free || cellish (kd p.1) p.1) && (p.2 != .local || scope.names.lookup p.1 == some .local) && (p.2 != .local || xs.any (fun x => nmS x == p.1) || p.1 == (".0" : Str))) &&
  xs.all fun x => scope.names.lookup (nmS x) == some .local
noncomputable def notSet : PySem.Expr → Bool
 | .Set .. => false
 | _ => true
noncomputable def notSlice : PySem.Expr → Bool
 | .Slice .. => false
 | _ => true
noncomputable def mine? (k : Option NameKind) : Bool := match k with
 | some .local => true | some .cell => true | _ => false
noncomputable def MNs (kd : Kd) : List Nat → List PySem.Expr → Prop
 | [], l => l = []
 | x :: xs, l => ∃ np l', l = .Name (nmS x) np :: l' ∧ mine? (kd (nmS x)) = true ∧ MNs kd xs l'
noncomputable def MT (kd : Kd) (xs : List Nat) (t : PySem.Expr) : Prop :=
 (∃ x np, xs = [x] ∧ t = .Name (nmS x) np ∧ mine? (kd (nmS x)) = true) ∨ (∃ l k p, 2 ≤ xs.length ∧ t = .Tuple l k p ∧ MNs kd xs l)
noncomputable def noStar : PySem.Expr → Bool
 | .Starred .. => false
 | _ => true
noncomputable def lenE : PEs → Nat
 | .nil => 0
 | .cons _ l => lenE l + 1
mutual
noncomputable def ME : PE → Kd → PySem.Expr → Prop
 | .bad, _, _ => True
 | .none, _, x => ∃ k p, x = .Constant .none k p
 | .bool b, _, x => ∃ k p, x = .Constant (.bool b) k p
 | .int i, _, x => ∃ k p, x = .Constant (.int i) k p
 | .str s, _, x => ∃ k p, x = .Constant (.str (S s)) k p
 | .loc y, kd, x => ∃ p, x = .Name (nmS y) p ∧ own? (kd (nmS y)) = true ∧ isDbg (nmS y) = false
 | .glb y, kd, x => ∃ p, x = .Name (nmS y) p ∧ kd (nmS y) = some .globalImplicit ∧ isDbg (nmS y) = false
 | .attr o a, kd, x => ∃ o' p, x = .Attribute o' (nmS a) p ∧ ME o kd o' ∧ notSuper o' = true
 | .call f l, kd, x => ∃ f' l' p, x = .Call f' l' [] p ∧ (∃ y np, f' = .Name y np) ∧ ME f kd f' ∧ MEs l kd l'
 | .meth o m l, kd, x => ∃ o' l' ap p, x = .Call (.Attribute o' (nmS m) ap) l' [] p ∧ ME o kd o' ∧ notSuper o' = true ∧ MEs l kd l' ∧ (ap.endLine == p.line) = true ∧ lenE l < 29
 | .bin op l r, kd, x => ∃ l' r' p, x = .BinOp l' op.op r' p ∧ ME l kd l' ∧ ME r kd r'
 | .cmp op l r, kd, x => ∃ l' r' p, x = .Compare l' [op.op] [r'] p ∧ ME l kd l' ∧ ME r kd r' ∧ behindInMarks op.op r' = false
 | .cmp2 a o1 b o2 z, kd, x => ∃ a' b' z' p, x = .Compare a' [o1.op, o2.op] [b', z'] p ∧ ME a kd a' ∧ ME b kd b' ∧ ME z kd z' ∧ behindInMarks o1.op b' = false ∧ behindInMarks o2.op z' = false
 | .and l, kd, x => ∃ l' p, x = .BoolOp .And l' p ∧ MEs l kd l'
 | .or l, kd, x => ∃ l' p, x = .BoolOp .Or l' p ∧ MEs l kd l'
 | .not e, kd, x => ∃ e' p, x = .UnaryOp .Not e' p ∧ ME e kd e'
 | .neg e, kd, x => ∃ e' p, x = .UnaryOp .USub e' p ∧ ME e kd e'
 | .sub o i, kd, x => ∃ o' i' p, x = .Subscript o' i' p ∧ ME o kd o' ∧ ME i kd i' ∧ notSlice i' = true
 | .slice o up i, kd, x => ∃ o' i' sp p, x = .Subscript o' (cond up (.Slice none (some i') none sp) (.Slice (some i') none none sp)) p ∧ ME o kd o' ∧ ME i kd i'
 | .list l, kd, x => ∃ l' p, x = .List l' p ∧ MEs l kd l' ∧ lenE l < 1000
 | .tuple l, kd, x => ∃ l' k p, x = .Tuple l' k p ∧ MEs l kd l' ∧ lenE l < 1000
 | .dict l, kd, x => ∃ ks vs p, x = .Dict ks vs p ∧ MPs l kd ks vs ∧ lenE l ≤ 30
 | .listc v xs it ifs, kd, x => ∃ v' tg it' ifs' scope p, x = .ListComp v' [⟨tg, it', ifs', 0⟩] scope p ∧ ME it kd it' ∧ notSet it' = true ∧ compOk kd scope xs = true ∧ ME v (kdC kd scope) v' ∧ MT (kdC kd scope) xs tg ∧ MEs ifs (kdC kd scope) ifs'
 | .dictc k v y it ifs, kd, x => ∃ k' v' tg it' ifs' scope p, x = .DictComp k' v' [⟨tg, it', ifs', 0⟩] scope p ∧ ME it kd it' ∧ notSet it' = true ∧ compOk kd scope [y] = true ∧ ME k (kdC kd scope) k' ∧ ME v (kdC kd scope) v' ∧ MT (kdC kd scope) [y] tg ∧ MEs ifs (kdC kd scope) ifs'
 | .setc .., _, _ => False
noncomputable def MEs : PEs → Kd → List PySem.Expr → Prop
 | .nil, _, l => l = []
 | .cons e l, kd, y => ∃ e' l', y = e' :: l' ∧ ME e kd e' ∧ MEs l kd l' ∧ noStar e' = true
noncomputable def MPs : PEs → Kd → List (Option PySem.Expr) → List PySem.Expr → Prop
 | .nil, _, ks, vs => ks = [] ∧ vs = []
 | .cons k .nil, _, _, _ => False
 | .cons k (.cons v l), kd, ks, vs => ∃ k' v' ks' vs', ks = some k' :: ks' ∧ vs = v' :: vs' ∧ ME k kd k' ∧ ME v kd v' ∧ MPs l kd ks' vs'
end
noncomputable def notTup : PySem.Expr → Bool
 | .Tuple .. => false
 | _ => true
noncomputable def swp (kd : Kd) (e : PySem.Expr) (y : Str) (np : Pos) : Bool := match e with
 | .ListComp _ _ s p => kd y == some .local && np.line == p.line && !(s.names.any fun q => q.1 == y && (q.2 == .local || q.2 == .cell))
 | _ => false
noncomputable def notComp : PySem.Expr → Bool
 | .ListComp .. => false | .SetComp .. => false | .DictComp .. => false
 | _ => true
noncomputable def swapB (kd : Kd) (ts vs : List PySem.Expr) : Option (List Str) :=
 if !(ts.length == 2 || ts.length == 3) || vs.length != ts.length then none
 else if vs.any (fun | .Starred .. => true | _ => false) then none
 else
  let line := (ts.head?.map (·.pos.line)).getD 0
  let names := ts.filterMap fun
   | .Name id pos => if kd id == some .local && pos.line == line then some id else none
   | _ => none
  if names.length != ts.length || names.eraseDups.length != names.length then none
  else if vs.all (foldedForSure 8) then none
  else if vs.all (constantsAlone 8) then none
  else some names
mutual
noncomputable def MS : PS → Kd → Stmt → Prop
 | .bad, _, _ => True
 | .pass, _, x => ∃ p, x = .Pass p
 | .ret0, _, x => ∃ p, x = .Return none p
 | .ret e, kd, x => ∃ e' p, x = .Return (some e') p ∧ ME e kd e'
 | .expr e, kd, x => ∃ e' p, x = .Expr e' p ∧ ME e kd e' ∧ notComp e' = true
 | .asg y e, kd, x => ∃ np e' p, x = .Assign [.Name (nmS y) np] e' p ∧ ME e kd e' ∧ (notComp e' = true ∨ kd (nmS y) = some .cell) ∧ mine? (kd (nmS y)) = true
 | .asgC y v xs it ifs, kd, x => ∃ np e' p, x = .Assign [.Name (nmS y) np] e' p ∧ ME (.listc v xs it ifs) kd e' ∧ swp kd e' (nmS y) np = true
 | .asgA o a e, kd, x => ∃ o' ap e' p, x = .Assign [.Attribute o' (nmS a) ap] e' p ∧ ME o kd o' ∧ ME e kd e'
 | .asgS o i e, kd, x => ∃ o' i' sp e' p, x = .Assign [.Subscript o' i' sp] e' p ∧ ME o kd o' ∧ ME i kd i' ∧ ME e kd e' ∧ notComp e' = true
 | .asgT xs e, kd, x => ∃ l k tp e' p, x = .Assign [.Tuple l k tp] e' p ∧ ME e kd e' ∧ MNs kd xs l ∧ 2 ≤ xs.length ∧ notTup e' = true
 | .asgW xs e, kd, x => ∃ l k tp vs a b p, x = .Assign [.Tuple l k tp] (.Tuple vs a b) p ∧ ME e kd (.Tuple vs a b) ∧ swapB kd l vs = some (xs.map nmS)
 | .delS o i, kd, x => ∃ o' i' sp p, x = .Delete [.Subscript o' i' sp] p ∧ ME o kd o' ∧ ME i kd i'
 | .ite t b e, kd, x => ∃ t' b' e' p, x = .If t' b' e' p ∧ ME t kd t' ∧ MSs b kd b' ∧ MSs e kd e'
 | .whl t b, kd, x => ∃ t' b' p, x = .While t' b' [] p ∧ ME t kd t' ∧ MSs b kd b'
 | .for1 xs it b, kd, x => ∃ t it' b' p, x = .For t it' b' [] p ∧ MT kd xs t ∧ ME it kd it' ∧ notSet it' = true ∧ MSs b kd b'
 | .try b _ _ _, kd, x => ∃ b' h₀ hs p, x = .Try b' (h₀ :: hs) [] [] p ∧ MSs b kd b'
 | .raise _, _, _ => False
 | .reraise, _, _ => False
noncomputable def MSs : PSs → Kd → List Stmt → Prop
 | .nil, _, l => l = []
 | .cons s l, kd, y => ∃ s' l', y = s' :: l' ∧ MS s kd s' ∧ MSs l kd l'
end
end Mine
end
section
open PySem PySem.W PyProof.Rows
namespace Mine
noncomputable def Room (d : Nat) (A : Around) : Prop := A.depth + 4 * d < 900 ∧ A.units + 20 * d < 9000 ∧ A.handled = none
noncomputable abbrev Sh (s : Shared) (h : Heap) (t : Nat) : Shared := { s with heap := h, toks := t }
noncomputable abbrev Own (env : Env) : Addr → Prop := fun a => a = env.locals ∨ ∃ x, env.cells.lookup x = some a
structure At (c : Cx) (d : Nat) (loc : Loc) (T : Hp) (env : Env) (A : Around) (s : Shared) (ρ δ : Nat → Addr) : Prop where
 fr : FR c ρ δ T.n loc env s.heap
 hr : HR c ρ δ T T.n s.heap
 ro : Room d A
noncomputable def Kv (c : Cx) (s : Shared) (ρ δ : Nat → Addr) (T T' : Hp) (v : AV) (Q : Value → Shared → Prop) : Prop :=
 ∀ ρ' δ' h' t' val, Go c No ρ δ T.n s.heap ρ' δ' T'.n h' → HR c ρ' δ' T' T'.n h' → VR T'.n ρ' v val → Q val (Sh s h' t')
noncomputable def Ev (c : Cx) (e : PE) (d : Nat) (loc : Loc) (T : Hp) (v : AV) (T' : Hp) : Prop :=
 ∀ (x : PySem.Expr) (env : Env) (A : Around) (s : Shared) (ρ δ : Nat → Addr) (Q E : Value → Shared → Prop), ME e env.kindOf x → At c d loc T env A s ρ δ → Kv c s ρ δ T T' v Q → wpAny (model c.prog c.w) A (eval x env) Q E s
noncomputable def Evs (c : Cx) (l : PEs) (d : Nat) (loc : Loc) (T : Hp) (vs : List AV) (T' : Hp) : Prop :=
 ∀ (x : List PySem.Expr) (env : Env) (A : Around) (s : Shared) (ρ δ : Nat → Addr) (Q : List Value → Shared → Prop) (E : Value → Shared → Prop) (pos : Pos), MEs l env.kindOf x → At c d loc T env A s ρ δ →
  (∀ ρ' δ' h' t' vals, Go c No ρ δ T.n s.heap ρ' δ' T'.n h' → HR c ρ' δ' T' T'.n h' → VRs T'.n ρ' vs vals → Q vals (Sh s h' t')) → wpAny (model c.prog c.w) A (spliced (backTo pos (starEach x env))) Q E s
noncomputable def Tr (c : Cx) (e : PE) (d : Nat) (loc : Loc) (T : Hp) (b : Bool) (T' : Hp) : Prop :=
 ∀ (x : PySem.Expr) (env : Env) (A : Around) (s : Shared) (ρ δ : Nat → Addr) (Q : Bool → Shared → Prop) (E : Value → Shared → Prop), ME e env.kindOf x → At c d loc T env A s ρ δ →
  (∀ ρ' δ' h' t', Go c No ρ δ T.n s.heap ρ' δ' T'.n h' → HR c ρ' δ' T' T'.n h' → Q b (Sh s h' t')) → wpAny (model c.prog c.w) A (isTrue x env (eval x env)) Q E s
noncomputable def Ca (c : Cx) (a : Nat) (args : List AV) (d : Nat) (T : Hp) (v : AV) (T' : Hp) : Prop :=
 ∀ (A : Around) (s : Shared) (ρ δ : Nat → Addr) (R : Result → Shared → Prop) (vals : List Value), VRs T.n ρ args vals → HR c ρ δ T T.n s.heap → Room d A → Kv c s ρ δ T T' v (fun v s' => R (.ok (.ret v)) s') → codeAny (model c.prog c.w) A (.call (.ref a) ⟨vals, []⟩) R s
inductive Fl where | nxt (l : Loc) | ret (v : AV)
noncomputable def Kf (c : Cx) (env : Env) (s : Shared) (ρ δ : Nat → Addr) (T T' : Hp) (f : Fl) (Q : Flow → Shared → Prop) : Prop := match f with
 | .nxt l => ∀ ρ' δ' h' t', Go c (Own env) ρ δ T.n s.heap ρ' δ' T'.n h' → HR c ρ' δ' T' T'.n h' → FR c ρ' δ' T'.n l env h' → Q .next (Sh s h' t')
 | .ret v => ∀ ρ' δ' h' t' val, Go c (Own env) ρ δ T.n s.heap ρ' δ' T'.n h' → HR c ρ' δ' T' T'.n h' → VR T'.n ρ' v val → Q (.ret val) (Sh s h' t')
noncomputable def St (c : Cx) (st : PS) (d : Nat) (loc : Loc) (T : Hp) (f : Fl) (T' : Hp) : Prop :=
 ∀ (x : Stmt) (env : Env) (A : Around) (s : Shared) (ρ δ : Nat → Addr) (Q : Flow → Shared → Prop) (E : Value → Shared → Prop), MS st env.kindOf x → At c d loc T env A s ρ δ → Kf c env s ρ δ T T' f Q → wpAny (model c.prog c.w) A (exec x env) Q E s
noncomputable def Ex (c : Cx) (b : PSs) (d : Nat) (loc : Loc) (T : Hp) (f : Fl) (T' : Hp) : Prop :=
 ∀ (x : List Stmt) (env : Env) (A : Around) (s : Shared) (ρ δ : Nat → Addr) (Q : Flow → Shared → Prop) (E : Value → Shared → Prop), MSs b env.kindOf x → At c d loc T env A s ρ δ → Kf c env s ρ δ T T' f Q → wpAny (model c.prog c.w) A (execs x env) Q E s
section
variable {c : Cx} {d : Nat} {loc loc' : Loc} {T T1 T2 T3 : Hp} {env : Env} {A : Around} {s : Shared} {ρ δ ρ' δ' : Nat → Addr} {h' : Heap} {t' : Nat} {v w : AV} {f : Fl} {Q : Value → Shared → Prop} {QF : Flow → Shared → Prop}
theorem At.go (a : At c d loc T env A s ρ δ) (g : Go c No ρ δ T.n s.heap ρ' δ' T1.n h') (hr : HR c ρ' δ' T1 T1.n h') : At c d loc T1 env A (Sh s h' t') ρ' δ' := ⟨a.fr.go g, hr, a.ro⟩
theorem Kv.go (k : Kv c s ρ δ T T2 v Q) (g : Go c No ρ δ T.n s.heap ρ' δ' T1.n h') : Kv c (Sh s h' t') ρ' δ' T1 T2 v Q := fun ρ2 δ2 h2 t2 val g2 => k ρ2 δ2 h2 t2 val (g.trans g2)
theorem Kf.go (k : Kf c env s ρ δ T T2 f QF) (g : Go c (Own env) ρ δ T.n s.heap ρ' δ' T1.n h') : Kf c env (Sh s h' t') ρ' δ' T1 T2 f QF := by
 cases f with
 | nxt l => exact fun ρ2 δ2 h2 t2 g2 => k ρ2 δ2 h2 t2 (g.trans g2)
 | ret v => exact fun ρ2 δ2 h2 t2 val g2 => k ρ2 δ2 h2 t2 val (g.trans g2)
theorem Kv.here (k : Kv c s ρ δ T T v Q) (hr : HR c ρ δ T T.n s.heap) {val : Value} (vr : VR T.n ρ v val) : Q val s := k ρ δ s.heap s.toks val Go.refl hr vr
end
section
variable {c : Cx} {d : Nat} {loc loc' : Loc} {T T1 T2 T3 : Hp} {v w : AV} {e e2 : PE}
theorem R_none : Ev c .none d loc T .none T := by
 rintro _ env A s ρ δ Q E ⟨k, p, rfl⟩ a ct
 exact wpAny_Constant_none (ct.here a.hr rfl)
theorem R_bool {b : Bool} : Ev c (.bool b) d loc T (.bool b) T := by
 rintro _ env A s ρ δ Q E ⟨k, p, rfl⟩ a ct
 exact wpAny_Constant_bool (ct.here a.hr rfl)
theorem R_ret (e1 : Ev c e d loc T v T1) : St c (.ret e) d loc T (.ret v) T1 := by
 rintro _ env A s ρ δ Q E ⟨e', p, rfl, me⟩ a ct
 exact wpAny_Return_some (e1 _ env A s ρ δ _ E me a fun ρ1 δ1 h' t1 va g1 hr1 vr1 => ct ρ1 δ1 h' t1 va g1.any hr1 vr1)
end
end Mine
end
section
open PySem PySem.W PyProof.Rows
namespace Mine
noncomputable def ext (ρ : Nat → Addr) (n : Nat) (a : Addr) : Nat → Addr := fun i => if i = n then a else ρ i
theorem ext_at (ρ : Nat → Addr) (n : Nat) (a : Addr) : ext ρ n a n = a := if_pos rfl
theorem ext_lt {ρ : Nat → Addr} {n i : Nat} {a : Addr} (h : i < n) : ext ρ n a i = ρ i := if_neg (Nat.ne_of_lt h)
section
variable {c : Cx} {X : Addr → Prop} {ρ δ : Nat → Addr} {T T' : Hp} {n : Nat} {h h' : Heap} {ao : AO}
theorem HR.grow {a d : Addr} (hr : HR c ρ δ T n h) (e : ∀ j, T'.get j = if j = n then some ao else T.get j) (ha : h.get? a = none) (hd : h.get? d = none) (ha' : Live h' a) (hd' : Live h' d)
  (k : ∀ b o, h.get? b = some o → h'.get? b = some o) (or : OR c (n + 1) (ext ρ n a) h' a d ao) : HR c (ext ρ n a) (ext δ n d) T' (n + 1) h' ∧ Go c X ρ δ n h (ext ρ n a) (ext δ n d) (n + 1) h' := by
 have cs : ∀ {i}, i < n + 1 → i < n ∨ i = n := fun q => Nat.lt_or_eq_of_le (Nat.le_of_lt_succ q)
 have dh : ∀ {x}, h.get? x = none → c.hb.get? x = none := fun {x} q => by
  cases z : c.hb.get? x with
  | none => rfl
  | some o => have := hr.base x o z; rw [q] at this; cases this
 have lv : ∀ {x}, Live h x → Live h' x := fun ⟨o, q⟩ => ⟨o, k _ _ q⟩
 refine ⟨⟨fun b o q => k b o (hr.base b o q), ?_, ?_, ?_, ?_, Nat.le_succ_of_le hr.ro, ?_⟩, ⟨Nat.le_succ n, fun i q => ⟨ext_lt q, ext_lt q⟩, ?_, fun b o q _ _ => ⟨o.slots, k b o q, .inr rfl⟩, fun b q => lv q⟩⟩
 ·intro i o q
  rw [e] at q
  by_cases hi : i = n
  ·subst hi
   rw [if_pos rfl] at q
   cases q
   rw [ext_at, ext_at]
   exact ⟨Nat.lt_succ_self _, or⟩
  ·rw [if_neg hi] at q
   obtain ⟨q1, q2⟩ := hr.obj i o q
   rw [ext_lt q1, ext_lt q1]
   exact ⟨Nat.lt_succ_of_lt q1, q2.up (Nat.le_succ n) (fun j hj => ext_lt hj) (k _) (k _)⟩
 ·intro i h1 h2
  rcases cs h2 with q | rfl
  ·rw [ext_lt q, ext_lt q]; exact hr.new i h1 q
  ·rw [ext_at, ext_at]; exact ⟨dh ha, dh hd⟩
 ·intro i j h1 h2 ne
  rcases cs h1 with q | rfl
  ·rcases cs h2 with p | rfl
   ·rw [ext_lt q, ext_lt p, ext_lt q, ext_lt p]; exact hr.apart i j q p ne
   ·have := hr.liv i q
    rw [ext_lt q, ext_at, ext_at, ext_lt q]
    exact ⟨dead_ne this.1 ha, dead_ne this.1 hd, dead_ne this.2 hd⟩
  ·rcases cs h2 with p | rfl
   ·have := hr.liv j p
    rw [ext_lt p, ext_at, ext_at, ext_lt p]
    exact ⟨Ne.symm (dead_ne this.1 ha), Ne.symm (dead_ne this.2 ha), Ne.symm (dead_ne this.2 hd)⟩
   ·exact absurd rfl ne
 ·intro i q
  rcases cs q with q | rfl
  ·rw [ext_lt q, ext_lt q]; exact ⟨lv (hr.liv i q).1, lv (hr.liv i q).2⟩
  ·rw [ext_at, ext_at]; exact ⟨ha', hd'⟩
 ·intro i q
  have := Nat.lt_of_lt_of_le q hr.ro
  rw [ext_lt this, ext_lt this]; exact hr.old i q
 ·intro i h1 h2
  obtain rfl : i = n := Nat.le_antisymm (Nat.le_of_lt_succ h2) h1
  rw [ext_at, ext_at]; exact ⟨ha, hd⟩
theorem HR.push {o : Obj} (hr : HR c ρ δ T n h) (e : ∀ j, T'.get j = if j = n then some ao else T.get j) (hf : o.isFreed = false) (or : OR c (n + 1) (ext ρ n h.objs.size) (h.push o) h.objs.size h.objs.size ao) :
  HR c (ext ρ n h.objs.size) (ext δ n h.objs.size) T' (n + 1) (h.push o) ∧ Go c X ρ δ n h (ext ρ n h.objs.size) (ext δ n h.objs.size) (n + 1) (h.push o) :=
 hr.grow e (dead_end _ (Nat.le_refl _)) (dead_end _ (Nat.le_refl _)) ⟨_, Heap.get?_push_size _ hf⟩ ⟨_, Heap.get?_push_size _ hf⟩ (fun b o' q => Heap.get?_push_of_some _ q) or
theorem HR.turn {r : Nat} (hr : HR c ρ δ T n h) (ro : 1 ≤ r) (lt : r < n) (e : ∀ j, T'.get j = if j = r then some ao else T.get j) (k : ∀ b o, b ≠ ρ r → b ≠ δ r → h.get? b = some o → h'.get? b = some o) (lr : Live h' (ρ r)) (ld : Live h' (δ r)) (or : OR c n ρ h' (ρ r) (δ r) ao) :
  HR c ρ δ T' n h' ∧ Go c X ρ δ n h ρ δ n h' := by
 have lv : ∀ {x}, Live h x → Live h' x := fun {x} z => by
  by_cases q1 : x = ρ r
  ·subst q1; exact lr
  ·by_cases q2 : x = δ r
   ·subst q2; exact ld
   ·obtain ⟨o, e⟩ := z; exact ⟨o, k _ _ q1 q2 e⟩
 refine ⟨⟨fun b o q => ?_, ?_, hr.new, hr.apart, fun i q => ⟨lv (hr.liv i q).1, lv (hr.liv i q).2⟩, hr.ro, hr.old⟩, ⟨Nat.le_refl _, fun _ _ => ⟨rfl, rfl⟩, fun i h1 h2 => absurd h2 (Nat.not_lt.mpr h1), fun b o q x _ => ?_, fun b q => lv q⟩⟩
 ·have := hr.new r ro lt
  exact k b o (dead_ne ⟨o, q⟩ this.1) (dead_ne ⟨o, q⟩ this.2) (hr.base b o q)
 ·intro i o q
  rw [e] at q
  by_cases hi : i = r
  ·subst hi
   rw [if_pos rfl] at q
   cases q
   exact ⟨lt, or⟩
  ·rw [if_neg hi] at q
   obtain ⟨q1, q2⟩ := hr.obj i o q
   have a1 := hr.apart i r q1 lt hi
   have a2 := hr.apart r i lt q1 (Ne.symm hi)
   exact ⟨q1, q2.up (Nat.le_refl _) (fun _ _ => rfl) (fun o' q' => k _ o' a1.1 a1.2.1 q') (fun o' q' => k _ o' (Ne.symm a2.2.1) a1.2.2 q')⟩
 ·have := x r ro lt
  exact ⟨o.slots, k b o (Ne.symm this.1) (Ne.symm this.2) q, .inr rfl⟩
end
noncomputable section
structure ClsOk (K : Frag) (C : Nat) (ci : CI) : Prop where
 ga : findIn K (.ref C) "__getattribute__" = some (some (.builtin "object.__getattribute__"))
 hk : findIn K (.ref C) "__getattr__" = some none
 sa : findIn K (.ref C) "__setattr__" = some (some (.builtin "object.__setattr__"))
 over : plainOver K C = true
 makes : makesIn K C = true
 keep : keepIn K (.ref C) = true
 cd : ∃ cd, clsIn K C = some cd ∧ cd.hasDict = true
 flds : ∀ a, ci.flds.contains a = true → findIn K (.ref C) (nmS a) = some none
 meths : ∀ m f, lk ci.meths m = some f → findIn K (.ref C) (nmS m) = some (some (.ref f)) ∧ typeIn K (.ref f) = some (.type "function") ∧ keepIn K (.ref f) = true ∧ ci.flds.contains m = false
noncomputable def bindV : List Nat → List Value → List Value → Nat → Option (List (Str × Value))
 | [], [], _, _ => some []
 | x :: xs, a :: as, d, k => match bindV xs as d (k - 1) with | some l => some ((nmS x, a) :: l) | none => none
 | x :: xs, [], d, k => match Nat.beq k 0 with
  | true => match d with
   | v :: d' => match bindV xs [] d' 0 with | some l => some ((nmS x, v) :: l) | none => none
   | [] => none
  | false => none
 | [], _ :: _, _, _ => none
structure FnOk (K : Frag) (a : Nat) (fi : FI) : Prop where
 ex : ∃ o fd body dv, K.lookup a = some o ∧ o.data = .func fd ∧ fd.body = .stmts body ∧ codeIn K fd.code fd.qualname = true ∧ fd.closure = [] ∧ fd.scope.kind = .function ∧
  fd.scope.isCoroutine = false ∧ fd.scope.isGenerator = false ∧ fd.globals = mainGlobals ∧ fd.builtins = builtinsNs ∧ MSs fi.body (fun x => fd.scope.names.lookup x) body ∧
  VRs 0 (fun _ => 0) fi.dfl dv ∧ fi.params.Nodup ∧ (∀ x ∈ fi.params, fd.scope.names.lookup (nmS x) = some .local ∨ fd.scope.names.lookup (nmS x) = some .cell) ∧
  ∀ (vals : List Value) (b : List (Str × Value)), bindV fi.params vals (dv.drop (vals.length - (fi.params.length - fi.dfl.length))) (fi.params.length - fi.dfl.length) = some b → ∀ S, peek K S (bindArgs fd ⟨vals, []⟩) = some b
structure Ok (c : Cx) : Prop where
 k : c.K.In c.hb
 nolim : c.hb.NoLimit
 cls : ∀ C ci, lk c.G.cls C = some ci → ClsOk c.K C ci
 fns : ∀ a fi, lk c.G.fns a = some fi → FnOk c.K a fi
 keepF : ∀ a fi, lk c.G.fns a = some fi → keepIn c.K (.ref a) = true
 nss : ∃ mg mb, c.hb.Ns mainGlobals mg ∧ c.hb.Ns builtinsNs mb ∧ ∀ x : Str, x ≠ "__name__" → mb x = bootBuiltins x
 glb : ∀ x v, lk c.G.glb x = some v → ∃ val, VR 0 (fun _ => 0) v val ∧ (nsIn c.K mainGlobals (nmS x) = some (some val) ∨ (nsIn c.K mainGlobals (nmS x) = some none ∧ bootBuiltins (nmS x) = some val ∧ nmS x ≠ "__name__"))
 top : ∀ a xs, lk c.G.top a = some xs → ∃ vs k, c.hb.get? a = some { cls := .type "tuple", data := .seq vs.toArray k } ∧ VRs 0 (fun _ => 0) xs vs
 sysm : Live c.hb sysModules
section
variable {c : Cx} {ρ δ : Nat → Addr} {n : Nat} {h : Heap} {T : Hp}
theorem HR.k (hr : HR c ρ δ T n h) (ok : Ok c) : c.K.In h := ok.k.keeps hr.base

theorem isStr_nm {e : DictEntry} {k a : Nat} (hk : ∃ t, e.key = .str (nmS k) t) : e.key.isStr (nmS a) = Nat.beq k a := by
 obtain ⟨t, hk⟩ := hk
 rw [hk]
 show (nmS k == nmS a) = _
 cases q : Nat.beq k a with
 | true => rw [Nat.eq_of_beq_eq_true q]; exact beq_self_eq_true _
 | false => exact beq_false_of_ne fun e => Nat.ne_of_beq_eq_false q (nmS_inj e)
theorem FsR.norefs {fs : List (Nat × AV)} {es : List DictEntry} (h : FsR n ρ fs es) : es.any (·.refKey) = false := by
 induction fs generalizing es with
 | nil => cases es with
  | nil => rfl
  | cons => exact h.elim
 | cons p fs ih => cases es with
  | nil => exact h.elim
  | cons e es =>
   obtain ⟨t, h1⟩ := h.1
   rw [List.any_cons, ih h.2.2]
   show (e.refKey || false) = false
   unfold DictEntry.refKey
   rw [h1]; rfl
theorem FsR.look {a : Nat} {fs : List (Nat × AV)} {es : List DictEntry} (h : FsR n ρ fs es) :
  (∀ v, lk fs a = some v → ∃ e, es.find? (·.key.isStr (nmS a)) = some e ∧ VR n ρ v e.val) ∧ (lk fs a = none → es.find? (·.key.isStr (nmS a)) = none) := by
 induction fs generalizing es with
 | nil => cases es with
  | nil => exact ⟨fun _ e => (nomatch e), fun _ => rfl⟩
  | cons => exact h.elim
 | cons p fs ih => cases es with
  | nil => exact h.elim
  | cons e es =>
   have q := isStr_nm (a := a) h.1
   show (∀ v, cond (Nat.beq p.1 a) (some p.2) (lk fs a) = some v → _) ∧ (cond (Nat.beq p.1 a) (some p.2) (lk fs a) = none → _)
   rw [List.find?_cons, q]
   cases Nat.beq p.1 a with
   | true => exact ⟨fun _ e => by cases e; exact ⟨_, rfl, h.2.1⟩, fun e => by cases e⟩
   | false => exact ih h.2.2
theorem lookIn_fs {fs : List (Nat × AV)} {es : List DictEntry} {k a : Nat} (x : FsR n ρ fs es) :
  (∀ v, lk fs a = some v → ∃ val, lookIn (nmS a) (dictOf es k) = some (some val) ∧ VR n ρ v val) ∧ (lk fs a = none → lookIn (nmS a) (dictOf es k) = some none) := by
 have z := x.look (a := a)
 unfold lookIn
 dsimp only
 constructor
 ·intro v e
  obtain ⟨en, h1, h2⟩ := z.1 v e
  rw [h1]; exact ⟨_, rfl, h2⟩
 ·intro e
  rw [z.2 e]
  dsimp only
  rw [x.norefs]; rfl

theorem VR.handed {a : AV} {v : Value} (x : VR n ρ a v) : handedIn v = true := by
 cases a <;> first
  | (cases x; rfl)
  | (obtain ⟨t, rfl⟩ := x; rfl)
  | (obtain ⟨_, rfl⟩ := x; rfl)
  | (rename_i f; cases x; cases f <;> decide +kernel)

theorem InstAt_of {r : Nat} {C : Nat} {fs : List (Nat × AV)} (o : OR c n ρ h (ρ r) (δ r) (.inst C fs)) : ∃ es k, InstAt h (ρ r) (instObj C (δ r)) C (some (dictOf es k)) ∧ FsR n ρ fs es := by
 obtain ⟨h1, es, k, h2, h3⟩ := o
 exact ⟨es, k, ⟨h1, rfl, rfl, h2⟩, h3⟩

theorem attr_leaf (ok : Ok c) {A : Around} {s : Shared} {r C a : Nat} {fs : List (Nat × AV)} {v : AV} {expr : Bool} {Q E : Value → Shared → Prop} (hr : HR c ρ δ T n s.heap) (ho : T.get r = some (.inst C fs)) {ci : CI} (hc : lk c.G.cls C = some ci) (hf : ci.flds.contains a = true) (hv : lk fs a = some v)
  (h : ∀ val, VR n ρ v val → Q val (Sh s s.heap (s.toks + 1))) : wpAny (model c.prog c.w) A (getAttr (.ref (ρ r)) (nmS a) expr) Q E s := by
 obtain ⟨es, k, I, F⟩ := InstAt_of (hr.obj r _ ho).2
 have CO := ok.cls C ci hc
 obtain ⟨cd, hcd, hd⟩ := CO.cd
 obtain ⟨val, hl, vr⟩ := (lookIn_fs (k := k) (a := a) F).1 v hv
 refine get_value (v := val) (hr.k ok) I CO.ga ?_ vr.handed (h val vr)
 unfold findObj
 rw [hcd, CO.flds a hf]
 simp only [Option.bind_some]
 unfold W.ownOf
 rw [hd, if_pos rfl]
 dsimp only
 rw [hl]
 rfl
end
end
section
variable {M : Model} {prog : Program} {w : World} {A : Around} {s : Shared} {env : Env} {Q E : Value → Shared → Prop}
theorem wp_base {o : PySem.Expr} {attr : Str} {whole : Sem Value} (hn : notSuper o = true) (h : wpAny M A whole Q E s) : wpAny M A (attributeBase o attr env whole) Q E s := by
 unfold attributeBase
 cases o <;> try exact h
 rename_i f args kws pos
 cases args with
 | cons => cases f <;> exact h
 | nil => cases kws with
  | cons => cases f <;> exact h
  | nil =>
   cases f <;> try exact h
   rename_i id p
   have : (id != ("super" : Str)) = true := hn
   dsimp only
   rw [if_pos (by rw [this]; rfl)]
   exact h
theorem wp_Attribute {value : PySem.Expr} {attr : Str} {pos : Pos} (hn : notSuper value = true) (h : wpAny (model prog w) A (eval value env) (fun o s₁ => wpAny (model prog w) A (getAttr o attr true) Q E s₁) E s) :
  wpAny (model prog w) A (eval (.Attribute value attr pos) env) Q E s := by
 show wpAny _ _ (attributeBase value attr env (eval value env) >>= fun o => standAt pos.atName >>= fun _ => holding [o] (getAttr o attr true) >>= fun r => letTemporaryGo value o r >>= fun _ => pure r) _ _ _
 refine wpAny_bind (wp_base hn (wpAny_mono h (fun o s₁ h₁ => wpAny_bind (wpAny_standAt (wpAny_bind (wpAny_holding (wpAny_mono h₁ (fun r s₂ h₂ => wpAny_bind (wpAny_letTemporaryGo (wpAny_pure h₂))) fun _ _ x => x))))) fun _ _ x => x))
end
end Mine
end
section
open PySem PySem.W PyProof.Rows
namespace Mine
section
variable {c : Cx} {T T' : Hp} {s : Shared} {ρ δ : Nat → Addr} {v : AV} {Q : Value → Shared → Prop} {ao : AO}
theorem Kv.push {ob : Obj} {t : Nat} (ct : Kv c s ρ δ T (hnew T ao) (.ref T.n) Q) (hr : HR c ρ δ T T.n s.heap) (hf : ob.isFreed = false) (or : OR c (T.n + 1) (ext ρ T.n s.heap.objs.size) (s.heap.push ob) s.heap.objs.size s.heap.objs.size ao) : Q (.ref s.heap.objs.size) (Sh s (s.heap.push ob) t) := by
 obtain ⟨r1, g1⟩ := hr.push (X := No) (get_hnew T ao) hf or
 exact ct _ _ _ t _ g1 r1 ⟨Nat.lt_succ_self _, by rw [ext_at]⟩
theorem ext_vrs {n : Nat} {a : Addr} {vs : List AV} {vals : List Value} (x : VRs n ρ vs vals) : VRs (n + 1) (ext ρ n a) vs vals := x.up (Nat.le_succ _) fun i q => ext_lt q
theorem VRs.len {n : Nat} {a : List AV} {v : List Value} (h : VRs n ρ a v) : a.length = v.length := by
 induction a generalizing v with
 | nil => cases v with
  | nil => rfl
  | cons => exact h.elim
 | cons x a ih => cases v with
  | nil => exact h.elim
  | cons y v => exact congrArg (· + 1) (ih h.2)
end
section
variable {c : Cx} {d : Nat} {loc : Loc} {T T1 T2 : Hp} {v : AV} {vs : List AV} {e : PE} {l : PEs}
theorem R_int {i : Int} : Ev c (.int i) d loc T (.int i) T := by
 rintro _ env A s ρ δ Q E ⟨k, p, rfl⟩ a ct
 exact wpAny_Constant_int (ct ρ δ s.heap (s.toks + 1) _ Go.refl a.hr ⟨_, rfl⟩)
theorem R_str {x : List Nat} : Ev c (.str x) d loc T (.str x) T := by
 rintro _ env A s ρ δ Q E ⟨k, p, rfl⟩ a ct
 exact wpAny_Constant_str (ct ρ δ s.heap (s.toks + 1) _ Go.refl a.hr ⟨_, rfl⟩)
theorem dbg_of {x : Str} (h : isDbg x = false) : (x == ("__debug__" : Str)) = false ∧ (x == ("__classdict__" : Str)) = false := Bool.or_eq_false_iff.mp h
theorem own_or {k : Option NameKind} (h : own? k = true) : k = some .local ∨ k = some .cell ∨ k = some .free := by
 cases k with
 | none => cases h
 | some k => cases k <;> first | exact .inl rfl | exact .inr (.inl rfl) | exact .inr (.inr rfl) | cases h
theorem R_loc {x : Nat} (hl : lk loc x = some v) : Ev c (.loc x) d loc T v T := by
 rintro _ env A s ρ δ Q E ⟨p, rfl, hk, hd⟩ a ct
 have fr := a.fr
 refine wpAny_Name ?_ (dbg_of hd).1
 rcases own_or hk with q | q | q
 ·obtain ⟨m, h1, h2⟩ := fr.ns
  obtain ⟨val, h3, h4⟩ := h2 x v hl q
  exact wpAny_loadName_local fr.kind q h1 h3 (ct.here a.hr h4)
 ·obtain ⟨b, val, h1, h2, h3⟩ := fr.cel x v hl (.inl q)
  exact wpAny_loadName_cell fr.kind q h1 h2 (ct.here a.hr h3)
 ·obtain ⟨b, val, h1, h2, h3⟩ := fr.cel x v hl (.inr q)
  exact wpAny_loadName_free fr.kind q h1 h2 (ct.here a.hr h3) (dbg_of hd).2
theorem R_glb (ok : Ok c) {x : Nat} (hl : lk c.G.glb x = some v) : Ev c (.glb x) d loc T v T := by
 rintro _ env A s ρ δ Q E ⟨p, rfl, hk, hd⟩ a ct
 have fr := a.fr; have hr := a.hr
 obtain ⟨val, vr, hg⟩ := ok.glb x v hl
 obtain ⟨mg, mb, h1, h2, h3⟩ := ok.nss
 have q : Q val s := ct.here hr (vr.up (Nat.zero_le _) fun i z => absurd z (Nat.not_lt_zero i))
 refine Calls.Name_function_global fr.kind hk ?_ (dbg_of hd).1
 rcases hg with hg | ⟨hg, hb, hn⟩
 ·exact Calls.loadGlobal_global (by rw [fr.glo]; exact h1.keeps hr.base) (mg_of ok.k h1 hg) q
 ·exact Calls.loadGlobal_builtin (by rw [fr.glo]; exact h1.keeps hr.base) (mg_none_of ok.k h1 hg) (by rw [fr.bui]; exact h2.keeps hr.base) ((h3 _ hn).trans hb) q
theorem R_attr (ok : Ok c) {a r C : Nat} {ci : CI} {fs : List (Nat × AV)} (e1 : Ev c e d loc T (.ref r) T1) (ho : T1.get r = some (.inst C fs)) (hc : lk c.G.cls C = some ci) (hf : ci.flds.contains a = true) (hy : lk fs a = some v) : Ev c (.attr e a) d loc T v T1 := by
 rintro _ env A s ρ δ Q E ⟨o', p, rfl, mo, ns⟩ at' ct
 refine wp_Attribute ns (e1 _ env A s ρ δ _ E mo at' fun ρ1 δ1 h' t1 va g1 hr1 vr1 => ?_)
 rw [vr1.2]
 exact attr_leaf ok (s := Sh s h' t1) hr1 ho hc hf hy fun val vr => ct ρ1 δ1 h' _ val g1 hr1 vr
theorem Rs_nil : Evs c .nil d loc T [] T := by
 rintro _ env A s ρ δ Q E pos rfl a ct
 exact wpAny_items_nil (ct ρ δ s.heap s.toks [] Go.refl a.hr trivial)
theorem star_no {x : PySem.Expr} {xs : List PySem.Expr} {env : Env} (h : noStar x = true) : starEach (x :: xs) env = (false, eval x env) :: starEach xs env := by
 cases x <;> first | rfl | cases h
theorem Rs_cons (e1 : Ev c e d loc T v T1) (e2 : Evs c l d loc T1 vs T2) : Evs c (.cons e l) d loc T (v :: vs) T2 := by
 rintro _ env A s ρ δ Q E pos ⟨x, xs, rfl, me, ms, ns⟩ a ct
 rw [star_no ns]
 refine Calls.spliced_cons (e1 _ env A s ρ δ _ E me a fun ρ1 δ1 h' t1 va g1 hr1 vr1 => ?_)
 exact e2 _ env A (Sh s h' t1) ρ1 δ1 _ E pos ms (a.go g1 hr1) fun ρ2 δ2 h2 t2 vals g2 hr2 vr2 => ct ρ2 δ2 h2 t2 (va :: vals) (g1.trans g2) hr2 ⟨g2.vr vr1, vr2⟩
theorem R_list (e1 : Evs c l d loc T vs T1) (hl : vs.length < 1000) : Ev c (.list l) d loc T (.ref T1.n) (hnew T1 (.list vs)) := by
 rintro _ env A s ρ δ Q E ⟨l', p, rfl, ms, _⟩ a ct
 refine wpAny_List (e1 _ env A s ρ δ _ E _ ms a fun ρ1 δ1 h' t1 vals g1 hr1 vr1 => ⟨?_, ?_⟩)
 ·rw [← vr1.len, sizeLine_eq]; exact Nat.le_trans (Nat.le_of_lt hl) (by decide)
 ·exact (Kv.go (t' := t1) ct g1).push hr1 rfl ⟨vals, 0, Heap.get?_push_size _ rfl, ext_vrs vr1⟩
theorem R_tuple (e1 : Evs c l d loc T vs T1) (hl : vs.length < 1000) : Ev c (.tuple l) d loc T (.ref T1.n) (hnew T1 (.tuple vs)) := by
 rintro _ env A s ρ δ Q E ⟨l', k, p, rfl, ms, _⟩ a ct
 refine wpAny_Tuple (e1 _ env A s ρ δ _ E _ ms a fun ρ1 δ1 h' t1 vals g1 hr1 vr1 => ⟨?_, ?_⟩)
 ·rw [← vr1.len, sizeLine_eq]; exact Nat.le_trans (Nat.le_of_lt hl) (by decide)
 ·exact (Kv.go (t' := t1) ct g1).push hr1 rfl ⟨vals, 0, Heap.get?_push_size _ rfl, ext_vrs vr1⟩
end
end Mine
end
section
open PySem PySem.W PyProof.Rows
namespace Mine
theorem mine_or {k : Option NameKind} (h : mine? k = true) : k = some .local ∨ k = some .cell := by
 cases k with
 | none => cases h
 | some k => cases k <;> first | exact .inl rfl | exact .inr rfl | cases h
section
variable {c : Cx} {loc : Loc} {T : Hp} {n : Nat} {env : Env} {A : Around} {s : Shared} {ρ δ : Nat → Addr} {E : Value → Shared → Prop}
noncomputable def StX (env : Env) (X : Addr → Prop) (x : Nat) : Prop := (env.kindOf (nmS x) = some .local → X env.locals) ∧ ∀ a, env.kindOf (nmS x) = some .cell → env.cells.lookup (nmS x) = some a → X a
theorem stx_own {x : Nat} : StX env (Own env) x := ⟨fun _ => .inl rfl, fun a _ e => .inr ⟨_, e⟩⟩
theorem store_snd {X : Addr → Prop} {x : Nat} {v : AV} {val : Value} {Q : Unit → Shared → Prop} (fr : FR c ρ δ n loc env s.heap) (hr : HR c ρ δ T n s.heap) (vr : VR n ρ v val) (hk : mine? (env.kindOf (nmS x)) = true)
  (nx : ∀ h' t', Go c X ρ δ n s.heap ρ δ n h' → HR c ρ δ T n h' → FR c ρ δ n (pt loc x v) env h' → Q () (Sh s h' t')) (hX : StX env X x := by exact stx_own) : wpAny (model c.prog c.w) A (storeName env (nmS x) val) Q E s := by
 rcases mine_or hk with q | q
 ·obtain ⟨m, h1, h2⟩ := fr.ns
  refine wpAny_storeName_local q h1 (fun h' hn hs => nx h' _ (Go.of_ext hs.extBut (fun _ => live_ns hn) (hX.1 q)) (hr.of_ext hs.extBut fr.offL fr.hbL) ?_) (by rw [fr.kind]; rfl)
  refine ⟨fr.kind, fr.glo, fr.bui, fr.offL, fr.hbL, ?_, fr.hbC, fr.inj, ⟨_, hn, ?_⟩, ?_, ?_⟩
  ·intro y a e
   have := fr.offC y a e
   exact ⟨this.1, this.2.1, let ⟨o, e⟩ := this.2.2; ⟨o, hs.extBut _ o this.2.1 e⟩⟩
  ·intro y w e k
   rw [lk_pt] at e
   by_cases hy : y = x
   ·subst hy; rw [if_pos rfl] at e; cases e; exact ⟨val, if_pos rfl, vr⟩
   ·rw [if_neg hy] at e
    obtain ⟨u, h3, h4⟩ := h2 y w e k
    exact ⟨u, by rw [if_neg fun z => hy (nmS_inj z)]; exact h3, h4⟩
  ·intro y w e k
   rw [lk_pt] at e
   by_cases hy : y = x
   ·subst hy; rcases k with k | k <;> (rw [q] at k; cases k)
   ·rw [if_neg hy] at e
    obtain ⟨a, u, h3, h4, h5⟩ := fr.cel y w e k
    exact ⟨a, u, h3, h4.sameBut hs (fr.offC _ a h3).2.1, h5⟩
  ·intro y k
   obtain ⟨a, u, h3, h4⟩ := fr.celE y k
   exact ⟨a, u, h3, h4.sameBut hs (fr.offC _ a h3).2.1⟩
 ·obtain ⟨a, u, h1, h2⟩ := fr.celE x q
  have hoff := fr.offC _ a h1
  refine wpAny_storeName_cell fr.kind q h1 h2 (fun h' hc hs => nx h' s.toks (Go.of_ext hs.extBut (fun _ => live_cell hc) (hX.2 a q h1)) (hr.of_ext hs.extBut hoff.1 (fr.hbC _ a q h1)) ?_)
  obtain ⟨m, h3, h4⟩ := fr.ns
  have other : ∀ {y b w}, y ≠ x → env.cells.lookup (nmS y) = some b → s.heap.IsCell b w → h'.IsCell b w := fun {y b w} hy hb hw => hw.sameBut hs fun z => hy (nmS_inj (fr.inj _ _ a (z ▸ hb) h1))
  refine ⟨fr.kind, fr.glo, fr.bui, fr.offL, fr.hbL, ?_, fr.hbC, fr.inj, ⟨m, h3.sameBut hs (Ne.symm hoff.2.1), ?_⟩, ?_, ?_⟩
  ·intro y b e
   have := fr.offC y b e
   exact ⟨this.1, this.2.1, by
    by_cases z : b = a
    ·subst z; exact live_cell hc
    ·obtain ⟨o, q⟩ := this.2.2; exact ⟨o, hs.extBut _ o z q⟩⟩
  ·intro y w e k
   rw [lk_pt] at e
   by_cases hy : y = x
   ·subst hy; rw [q] at k; cases k
   ·rw [if_neg hy] at e; exact h4 y w e k
  ·intro y w e k
   rw [lk_pt] at e
   by_cases hy : y = x
   ·subst hy; rw [if_pos rfl] at e; cases e; exact ⟨a, val, h1, hc, vr⟩
   ·rw [if_neg hy] at e
    obtain ⟨b, u', h5, h6, h7⟩ := fr.cel y w e k
    exact ⟨b, u', h5, other hy h5 h6, h7⟩
  ·intro y k
   by_cases hy : y = x
   ·subst hy; exact ⟨a, _, h1, hc⟩
   ·obtain ⟨b, u', h5, h6⟩ := fr.celE y k
    exact ⟨b, u', h5, other hy h5 h6⟩
end
section
variable {c : Cx} {ρ δ : Nat → Addr} {n : Nat} {T : Hp}
theorem FsR.put {a : Nat} {v : AV} {val : Value} {hsh : Int} {tk : Tok} (vr : VR n ρ v val) {fs : List (Nat × AV)} {es : List DictEntry} (h : FsR n ρ fs es) : FsR n ρ (pt fs a v) (putL (nmS a) hsh (.str (nmS a) tk) val es) := by
 induction fs generalizing es with
 | nil => cases es with
  | nil => exact ⟨⟨tk, rfl⟩, vr, trivial⟩
  | cons => exact h.elim
 | cons p fs ih => cases es with
  | nil => exact h.elim
  | cons e es =>
   have q := isStr_nm (a := a) h.1
   show FsR n ρ (cond (Nat.beq p.1 a) ((p.1, v) :: fs) (p :: pt fs a v)) _
   unfold putL
   rw [q]
   cases Nat.beq p.1 a with
   | true => rw [if_pos rfl]; exact ⟨h.1, vr, h.2.2⟩
   | false => rw [if_neg Bool.false_ne_true]; exact ⟨h.1, h.2.1, ih h.2.2⟩
theorem FsR.len {fs : List (Nat × AV)} {es : List DictEntry} (h : FsR n ρ fs es) : es.length = fs.length := by
 induction fs generalizing es with
 | nil => cases es with
  | nil => rfl
  | cons => exact h.elim
 | cons p fs ih => cases es with
  | nil => exact h.elim
  | cons e es => exact congrArg (· + 1) (ih h.2.2)
theorem putL_len (nmx : Str) (hsh : Int) (k v : Value) : ∀ es : List DictEntry, (putL nmx hsh k v es).length ≤ es.length + 1
 | [] => Nat.le_refl _
 | e :: r => by
  unfold putL
  split
  ·exact Nat.le_succ _
  ·exact Nat.succ_le_succ (putL_len nmx hsh k v r)
theorem setattr_leaf (ok : Ok c) {A : Around} {s : Shared} {r C a : Nat} {fs : List (Nat × AV)} {v : AV} {val : Value} {Q : Unit → Shared → Prop} {E : Value → Shared → Prop} (hr : HR c ρ δ T T.n s.heap) (ho : T.get r = some (.inst C fs)) {ci : CI} (hc : lk c.G.cls C = some ci) (hf : ci.flds.contains a = true)
  (hl : fs.length < 500) (hro : 1 ≤ r) (vr : VR T.n ρ v val)
  (nx : ∀ h' t', Go c No ρ δ T.n s.heap ρ δ T.n h' → HR c ρ δ (hput T r (.inst C (pt fs a v))) T.n h' → Q () (Sh s h' t')) : wpAny (model c.prog c.w) A (setAttr (.ref (ρ r)) (nmS a) val) Q E s := by
 obtain ⟨hlt, hor⟩ := hr.obj r _ ho
 obtain ⟨es, k, I, F⟩ := InstAt_of hor
 have CO := ok.cls C ci hc
 obtain ⟨cd, hcd, hd⟩ := CO.cd
 have X := hr.k ok
 have ht : takerIn c.K C (nmS a) = some none := by unfold takerIn; rw [CO.flds a hf]; rfl
 refine set_plain X I CO.sa (osa_open (s := { s with toks := s.toks + 1 }) X I CO.over ht fun b => ?_)
 have D : s.heap.get? (δ r) = some (dictOf es k) := I.dict
 have hfr : (Obj.putName (nmS a) (PyData.keyHash c.w.params (nmS a)) (.str (nmS a) (s.toks + 1)) val (dictOf es k)).isFreed = false := by rw [putName_dict]; rfl
 have D' := Heap.get?_update_self (Obj.putName (nmS a) (PyData.keyHash c.w.params (nmS a)) (.str (nmS a) (s.toks + 1)) val) D hfr
 rw [putName_dict] at D'
 refine wpAny_bind (wpAny_pure (wpAny_bind (wpAny_bind (wpAny_loadPart I.at_ (wpAny_bind (Looks.here (s := { s with toks := s.toks + 1 }) (looks_clsIn X hcd) ?_))))))
 rw [hd]
 refine wpAny_pure (a := some (δ r)) (wpAny_bind (wpAny_pure (wpAny_bind ?_)))
 unfold nsSet
 refine wpAny_bind (wpAny_bind (wpAny_askSetting (wpAny_pure (wpAny_bind (wpAny_mkText (wpAny_bind (wpAny_loadPart D ?_)))))))
 dsimp only
 have cc : (!es.toArray.any (·.key.isStr (nmS a)) && es.toArray.any (·.refKey)) = false := by
  rw [← Array.any_toList, ← Array.any_toList, F.norefs, Bool.and_false]
 rw [aRefKeyMayBeTheName_at, cc]
 refine wpAny_updatePart D ?_
 have hz : (putL (nmS a) (PyData.keyHash c.w.params (nmS a)) (.str (nmS a) (s.toks + 1)) val es).toArray.size ≤ sizeLine + 1 := by
  have h1 := putL_len (nmS a) (PyData.keyHash c.w.params (nmS a)) (.str (nmS a) (s.toks + 1)) val es
  rw [List.size_toArray, sizeLine_eq]
  have := F.len
  omega
 refine wpAny_bind (wpAny_lookBehind D' (pastItsLine_dict hz) ?_)
 have i1 : (s.heap.update (δ r) (Obj.putName (nmS a) (PyData.keyHash c.w.params (nmS a)) (.str (nmS a) (s.toks + 1)) val)).get? (ρ r) = some (instObj C (δ r)) := by
  refine (Heap.get?_update_other _ _ ?_).trans hor.1
  intro z
  have := hor.1
  rw [← z] at this
  have q : some (instObj C (δ r)) = some (dictOf es k) := this.symm.trans D
  cases q
 obtain ⟨r1, g1⟩ := hr.turn (X := No) (h' := s.heap.update (δ r) (Obj.putName (nmS a) (PyData.keyHash c.w.params (nmS a)) (.str (nmS a) (s.toks + 1)) val)) hro hlt (ao := .inst C (pt fs a v)) (fun j => get_hput T _ r j hlt) (fun b o n1 n2 q => (Heap.get?_update_other _ _ (Ne.symm n2)).trans q) ⟨_, i1⟩ ⟨_, D'⟩ ⟨i1, _, _, D', F.put vr⟩
 exact wpAny_pure (nx _ _ g1 r1)
end

section
variable {c : Cx} {d : Nat} {loc loc' : Loc} {T T1 T2 : Hp} {v : AV} {e o : PE} {f : Fl} {st : PS} {b b2 : PSs}
theorem swaps_no {e : PySem.Expr} {t : Option PySem.Expr} {l : Nat} {env : Env} (h : notComp e = true) : swapsWith e t l env = pure false := by
 cases e <;> first | rfl | cases h
theorem swaps_cell {e : PySem.Expr} {y : Str} {np : Pos} {l : Nat} {env : Env} (h : env.kindOf y = some .cell) : swapsWith e (some (.Name y np)) l env = pure false := by
 cases e <;> first | rfl | (show (pure (_ && _ && _ && _) : Sem Bool) = _; rw [h, show ((some NameKind.cell == some NameKind.local) : Bool) = false from rfl, Bool.and_false, Bool.false_and, Bool.false_and])
theorem R_expr (e1 : Ev c e d loc T v T1) : St c (.expr e) d loc T (.nxt loc) T1 := by
 rintro _ env A s ρ δ Q E ⟨e', p, rfl, me, nc⟩ a ct
 exact wpAny_Expr_any (e1 _ env A s ρ δ _ E me a fun ρ1 δ1 h' t1 va g1 hr1 vr1 => ct ρ1 δ1 h' t1 g1.any hr1 (a.fr.go g1)) (by unfold interactive; rw [a.fr.kind]; rfl) (swaps_no nc)
theorem R_asg {x : Nat} (e1 : Ev c e d loc T v T1) : St c (.asg x e) d loc T (.nxt (pt loc x v)) T1 := by
 rintro _ env A s ρ δ Q E ⟨np, e', p, rfl, me, nc, mk⟩ a ct
 exact wpAny_Assign_Name (e1 _ env A s ρ δ _ E me a fun ρ1 δ1 h' t1 va g1 hr1 vr1 => store_snd (a.fr.go g1) hr1 vr1 mk fun h'' t'' g r f => ct ρ1 δ1 h'' t'' (g1.any.trans g) r f) (nc.elim swaps_no fun h => swaps_cell h)
theorem R_if {t : PE} (w : Bool) (e1 : Tr c t d loc T w T1) (e2 : Ex c (cond w b b2) d loc T1 f T2) : St c (.ite t b b2) d loc T f T2 := by
 rintro _ env A s ρ δ Q E ⟨t', b', b2', p, rfl, me, m1, m2⟩ a ct
 refine wpAny_If (e1 _ env A s ρ δ _ E me a fun ρ1 δ1 h' t1 g1 hr1 => ?_)
 cases w with
 | true => exact e2 _ env A _ ρ1 δ1 Q E m1 (a.go g1 hr1) (Kf.go (t' := t1) ct g1.any)
 | false => exact e2 _ env A _ ρ1 δ1 Q E m2 (a.go g1 hr1) (Kf.go (t' := t1) ct g1.any)
theorem R_asgA (ok : Ok c) {a r C : Nat} {ci : CI} {fs : List (Nat × AV)} (e1 : Ev c e d loc T v T1) (e2 : Ev c o d loc T1 (.ref r) T2) (ho : T2.get r = some (.inst C fs)) (hc : lk c.G.cls C = some ci) (hf : ci.flds.contains a = true) (hl : fs.length < 500) (hro : 1 ≤ r) : St c (.asgA o a e) d loc T (.nxt loc) (hput T2 r (.inst C (pt fs a v))) := by
 rintro _ env A s ρ δ Q E ⟨o', ap, e', p, rfl, mo, me⟩ at' ct
 refine wpAny_Assign_stores (e1 _ env A s ρ δ _ E me at' fun ρ1 δ1 h' t1 va g1 hr1 vr1 => ?_) (by cases e' <;> rfl) (by cases e' <;> rfl)
 show wpAny _ _ (holding [va] (eval o' env) >>= fun ov => standAt ap.atName >>= fun _ => holding [va, ov] (setAttr ov (nmS a) va) >>= fun _ => release [va, ov] []) _ _ _
 refine wpAny_bind (wpAny_holding (e2 _ env A (Sh s h' t1) ρ1 δ1 _ E mo (at'.go g1 hr1) fun ρ2 δ2 h'' t2 vo g2 hr2 vr2 => wpAny_bind (wpAny_standAt (wpAny_bind (wpAny_holding ?_)))))
 rw [vr2.2]
 exact setattr_leaf ok (s := Sh s h'' t2) hr2 ho hc hf hl hro (g2.vr vr1) fun h3 t3 g3 r3 => wpAny_release (ct ρ2 δ2 h3 t3 ((g1.trans (g2.trans g3)).any) r3 (((at'.fr.go g1).go g2).go g3))
theorem X_nil : Ex c .nil d loc T (.nxt loc) T := by
 rintro _ env A s ρ δ Q E rfl a ct
 exact wpAny_execs_nil (ct ρ δ s.heap s.toks Go.refl a.hr a.fr)
theorem X_cons (e1 : St c st d loc T (.nxt loc') T1) (e2 : Ex c b d loc' T1 f T2) : Ex c (.cons st b) d loc T f T2 := by
 rintro _ env A s ρ δ Q E ⟨x, l, rfl, m1, m2⟩ a ct
 exact wpAny_execs_cons (e1 _ env A s ρ δ _ E m1 a fun ρ1 δ1 h' t1 g r fr => e2 _ env A (Sh s h' t1) ρ1 δ1 Q E m2 ⟨fr, r, a.ro⟩ (Kf.go ct g))
theorem X_ret (e1 : St c st d loc T (.ret v) T1) : Ex c (.cons st b) d loc T (.ret v) T1 := by
 rintro _ env A s ρ δ Q E ⟨x, l, rfl, m1, m2⟩ a ct
 exact wpAny_execs_cons (e1 _ env A s ρ δ _ E m1 a ct)
end
end Mine
end
section
open PySem PySem.W PyProof.Rows
namespace Mine
noncomputable def BR (n : Nat) (ρ : Nat → Addr) : Loc → List (Str × Value) → Prop
 | [], [] => True
 | (x, a) :: l, (y, v) :: r => y = nmS x ∧ VR n ρ a v ∧ BR n ρ l r
 | _, _ => False
section
variable {n : Nat} {ρ : Nat → Addr}
theorem bindL_other {kd : Kd} {y : Str} (r : List (Str × Value)) (m : Str → Option Value) (h : ∀ p ∈ r, p.1 ≠ y) : bindL kd r m y = m y := by
 induction r generalizing m with
 | nil => rfl
 | cons p r ih =>
  unfold bindL
  rw [ih _ fun q hq => h q (.tail _ hq)]
  by_cases k : kd p.1 = some .local
  ·rw [if_pos k]; exact if_neg (Ne.symm (h p (.head _)))
  ·rw [if_neg k]
theorem bindC_other {kd : Kd} {y : Str} (r : List (Str × Value)) (m : Str → Option Value) (h : ∀ p ∈ r, p.1 ≠ y) : bindC kd r m y = m y := by
 induction r generalizing m with
 | nil => rfl
 | cons p r ih =>
  unfold bindC
  rw [ih _ fun q hq => h q (.tail _ hq)]
  by_cases k : kd p.1 = some .local
  ·rw [if_pos k]
  ·rw [if_neg k]; exact if_neg (Ne.symm (h p (.head _)))
theorem BR.names {l : Loc} {r : List (Str × Value)} (h : BR n ρ l r) : ∀ p ∈ r, ∃ x ∈ l.map (·.1), p.1 = nmS x := by
 induction l generalizing r with
 | nil => cases r with
  | nil => exact fun _ hp => nomatch hp
  | cons => exact h.elim
 | cons q l ih => cases r with
  | nil => exact h.elim
  | cons w r =>
   intro p hp
   rcases List.mem_cons.mp hp with rfl | hp
   ·exact ⟨q.1, .head _, h.1⟩
   ·obtain ⟨z, hz, e⟩ := ih h.2.2 p hp
    exact ⟨z, .tail _ hz, e⟩
theorem BR.look {kd : Kd} {l : Loc} {r : List (Str × Value)} (h : BR n ρ l r) (nd : (l.map (·.1)).Nodup) (x : Nat) (v : AV) (e : lk l x = some v) :
  (kd (nmS x) = some .local → ∀ m, ∃ val, bindL kd r m (nmS x) = some val ∧ VR n ρ v val) ∧ (kd (nmS x) ≠ some .local → ∀ m, ∃ val, bindC kd r m (nmS x) = some val ∧ VR n ρ v val) := by
 induction l generalizing r with
 | nil => cases e
 | cons q l ih => cases r with
  | nil => exact h.elim
  | cons w r =>
   obtain ⟨y, u⟩ := w
   obtain ⟨k, a⟩ := q
   obtain ⟨h1, h2, h3⟩ := h
   rw [List.map_cons, List.nodup_cons] at nd
   rw [lk_cons] at e
   by_cases z : k = x
   ·rw [if_pos z] at e
    cases e
    subst z; subst h1
    have ne : ∀ p ∈ r, p.1 ≠ nmS k := fun p hp z => by
     obtain ⟨u, hu, e⟩ := h3.names p hp
     exact nd.1 (nmS_inj (z.symm.trans e) ▸ hu)
    constructor
    ·intro k' m
     unfold bindL
     rw [bindL_other r _ ne, if_pos k', if_pos rfl]
     exact ⟨u, rfl, h2⟩
    ·intro k' m
     unfold bindC
     rw [bindC_other r _ ne, if_neg k', if_pos rfl]
     exact ⟨u, rfl, h2⟩
   ·rw [if_neg z] at e
    have ih := ih h3 nd.2 e
    exact ⟨fun k m => by unfold bindL; exact ih.1 k _, fun k m => by unfold bindC; exact ih.2 k _⟩
end

noncomputable def binds : List Nat → List AV → List AV → Nat → Option Loc
 | [], [], _, _ => some []
 | x :: xs, a :: as, d, k => (binds xs as d (k - 1)).map fun l => (x, a) :: l
 | x :: xs, [], v :: d, 0 => (binds xs [] d 0).map fun l => (x, v) :: l
 | _, _, _, _ => none
theorem binds_BR {n : Nat} {ρ : Nat → Addr} {ps : List Nat} {as ds : List AV} {vs dv : List Value} {k : Nat} {l : Loc} (h1 : VRs n ρ as vs) (h2 : VRs n ρ ds dv) (e : binds ps as ds k = some l) : ∃ r, bindV ps vs dv k = some r ∧ BR n ρ l r ∧ l.map (·.1) = ps := by
 induction ps generalizing as ds vs dv k l with
 | nil => cases as with
  | cons => cases e
  | nil => cases vs with
   | cons => exact h1.elim
   | nil => cases e; exact ⟨[], rfl, trivial, rfl⟩
 | cons x xs ih => cases as with
  | cons a as => cases vs with
   | nil => exact h1.elim
   | cons v vs =>
    have e : (binds xs as ds (k - 1)).map (fun l => (x, a) :: l) = some l := e
    obtain ⟨l', q, rfl⟩ := Option.map_eq_some_iff.mp e
    obtain ⟨r, h4, h5, h6⟩ := ih h1.2 h2 q
    refine ⟨(nmS x, v) :: r, ?_, ⟨rfl, h1.1, h5⟩, by rw [List.map_cons, h6]⟩
    unfold bindV; rw [h4]
  | nil => cases vs with
   | cons => exact h1.elim
   | nil => cases ds with
    | nil => cases k <;> cases e
    | cons d ds => cases dv with
     | nil => exact h2.elim
     | cons v dv => cases k with
      | succ => cases e
      | zero =>
       have e : (binds xs [] ds 0).map (fun l => (x, d) :: l) = some l := e
       obtain ⟨l', q, rfl⟩ := Option.map_eq_some_iff.mp e
       obtain ⟨r, h4, h5, h6⟩ := ih (as := []) (vs := []) trivial h2.2 q
       refine ⟨(nmS x, v) :: r, ?_, ⟨rfl, h2.1, h5⟩, by rw [List.map_cons, h6]⟩
       show (match bindV xs [] dv 0 with | some l => some ((nmS x, v) :: l) | none => none) = _
       rw [h4]
theorem VRs.drop {n : Nat} {ρ : Nat → Addr} {a : List AV} {v : List Value} (k : Nat) (h : VRs n ρ a v) : VRs n ρ (a.drop k) (v.drop k) := by
 induction k generalizing a v with
 | zero => exact h
 | succ k ih => cases a with
  | nil => cases v with
   | nil => trivial
   | cons => exact h.elim
  | cons x a => cases v with
   | nil => exact h.elim
   | cons y v => exact ih h.2
section
variable {c : Cx} {ρ δ : Nat → Addr} {n : Nat} {T : Hp} {s s' : Shared}
theorem HR.offNew (hr : HR c ρ δ T n s.heap) {a : Addr} (h : s.heap.get? a = none) : Off c ρ δ n a := fun i h1 h2 =>
 ⟨dead_ne (hr.liv i h2).1 h, dead_ne (hr.liv i h2).2 h⟩
theorem HR.dead (hr : HR c ρ δ T n s.heap) {a : Addr} (h : s.heap.get? a = none) : c.hb.get? a = none := by
 cases q : c.hb.get? a with
 | none => rfl
 | some o => have := hr.base a o q; rw [h] at this; cases this
theorem pw_inj : ∀ {l : List (Str × Addr)}, (l.Pairwise fun x y => x.2 ≠ y.2) → ∀ {x y : Str} {a : Addr}, l.lookup x = some a → l.lookup y = some a → x = y := by
 intro l h x y a hx hy
 exact name_of_addr h (mem_of_lookup hx) (mem_of_lookup hy)
theorem FR.enter {fd : FuncData} {b : List (Str × Value)} {l : Loc} {L : Addr} {code : Value} {f : Option Addr} {q : Str} (hr : HR c ρ δ T n s.heap) (br : BR n ρ l b) (nd : (l.map (·.1)).Nodup)
  (hk : fd.scope.kind = .function) (hg : fd.globals = mainGlobals) (hbu : fd.builtins = builtinsNs) (hL : L = s.heap.objs.size)
  (x : InCallC s L (bindL (fun y => fd.scope.names.lookup y) b fun _ => none) (cellsFrom (L + 1) fd.scope.names []) (bindC (fun y => fd.scope.names.lookup y) b fun _ => none) s')
  (hc : ∀ y ∈ l.map (·.1), fd.scope.names.lookup (nmS y) = some .local ∨ fd.scope.names.lookup (nmS y) = some .cell) :
  FR c ρ δ n l (newEnv fd.scope L fd.globals (cellsFrom (L + 1) fd.scope.names []) q f code none fd.builtins) s'.heap := by
 obtain ⟨⟨hsame, hns, hkeep, hfresh⟩, hcell, hap, hab⟩ := x
 have above : ∀ y a, (cellsFrom (L + 1) fd.scope.names []).lookup y = some a → L < a := fun y a e => hab y a (mem_of_lookup e)
 have inl : ∀ {y v}, lk l y = some v → y ∈ l.map (·.1) := by
  intro y v
  clear br nd hc hcell hns
  induction l with
  | nil => intro e; cases e
  | cons p r ih =>
   intro e
   obtain ⟨k, w⟩ := p
   rw [lk_cons] at e
   rw [List.map_cons]
   by_cases z : k = y
   ·subst z; exact .head _
   ·rw [if_neg z] at e; exact .tail _ (ih e)
 have dd : ∀ a, L ≤ a → s.heap.get? a = none := fun a q => dead_end _ (by rw [← hL]; exact q)
 refine ⟨hk, hg, hbu, hr.offNew (dd L (Nat.le_refl _)), ?_, ?_, ?_, fun y z a => pw_inj hap, ⟨_, hns, ?_⟩, ?_, ?_⟩
 ·exact hr.dead (dd L (Nat.le_refl _))
 ·intro y a e
  have := above y a e
  exact ⟨hr.offNew (dd a (Nat.le_of_lt this)), Nat.ne_of_gt this, live_cell (hcell y a e)⟩
 ·intro y a _ e
  have := above y a e
  exact hr.dead (dd a (Nat.le_of_lt this))
 ·intro y v e k
  exact (br.look nd y v e).1 k _
 ·intro y v e k
  have kl : fd.scope.names.lookup (nmS y) ≠ some .local := fun z => by rcases k with k | k <;> (rw [show (newEnv fd.scope L fd.globals (cellsFrom (L + 1) fd.scope.names []) q f code none fd.builtins).kindOf (nmS y) = fd.scope.names.lookup (nmS y) from rfl, z] at k; cases k)
  obtain ⟨val, h1, h2⟩ := (br.look (kd := fun y => fd.scope.names.lookup y) nd y v e).2 kl fun _ => none
  have kc : fd.scope.names.lookup (nmS y) = some .cell := (hc y (inl e)).resolve_left kl
  have := cellsFrom_some (x := nmS y) fd.scope.names (L + 1) [] (.inl kc)
  obtain ⟨a, ha⟩ := Option.isSome_iff_exists.mp this
  exact ⟨a, val, ha, by have := hcell _ _ ha; rwa [h1] at this, h2⟩
 ·intro y k
  have := cellsFrom_some (x := nmS y) fd.scope.names (L + 1) [] (.inl k)
  obtain ⟨a, ha⟩ := Option.isSome_iff_exists.mp this
  exact ⟨a, _, ha, hcell _ _ ha⟩
end
noncomputable def Fl.out : Fl → AV
 | .nxt _ => .none
 | .ret v => v
section
variable {c : Cx} {d : Nat} {loc : Loc} {T T1 : Hp} {args : List AV} {f : Fl}
theorem C_fun (ok : Ok c) {a : Nat} {fi : FI} {l : Loc} (hfi : lk c.G.fns a = some fi) (hl : binds fi.params args (fi.dfl.drop (args.length - (fi.params.length - fi.dfl.length))) (fi.params.length - fi.dfl.length) = some l) (e : Ex c fi.body d l T f T1) : Ca c a args (d + 1) T f.out T1 := by
 intro A s ρ δ R vals va hr ro ct
 obtain ⟨ob, fd, body, dv, h1, h2, h3, h4, h5, h6, h7, h8, h9, h10, h11, h12, h13, h14, h15⟩ := (ok.fns _ _ hfi).ex
 have X := hr.k ok
 have hroom : A.depth < recursionLimit := by have := ro.1; unfold recursionLimit; omega
 have vd : VRs T.n ρ (fi.dfl.drop (args.length - (fi.params.length - fi.dfl.length))) (dv.drop (vals.length - (fi.params.length - fi.dfl.length))) := by
  rw [va.len]
  exact VRs.drop _ (h12.up (Nat.zero_le _) fun i q => absurd q (Nat.not_lt_zero i))
 obtain ⟨b, hb, hbr, hnm⟩ := binds_BR va vd hl
 have BT : BindsTo s fd ⟨vals, []⟩ b := kp_binds X (h15 vals b hb)
 refine codeAny_call_function hroom (X _ _ h1) h2 h7 h8 h3 (codeRec_of X h4) (BT _ _ _ _ ?_)
 rw [h5]
 have hkind : ∀ x ∈ b, fd.scope.names.lookup x.1 = some .local ∨ (fd.scope.names.lookup x.1 = some .cell ∧ ((cellsFrom (s.heap.objs.size + 1) fd.scope.names []).lookup x.1).isSome = true) := by
  intro x hx
  obtain ⟨y, hy, e⟩ := hbr.names x hx
  rw [hnm] at hy
  rw [e]
  exact (h14 y hy).imp id fun k => ⟨k, cellsFrom_some _ _ _ (.inl k)⟩
 refine wpAny_newFunctionEnv_cells h6 hkind fun env he s' x => ?_
 subst he
 obtain ⟨hh, tk, hs'⟩ := x.toInCall.same
 have keep := x.toInCall.keep
 have fr := FR.enter (q := fd.qualname ++ ".<locals>.") (f := some a) (code := fd.code) hr hbr (by rw [hnm]; exact h13) h6 h9 h10 rfl x (by rw [hnm]; exact h14)
 subst hs'
 refine ⟨(ok.nolim.keeps hr.base).keeps keep, codeAny_func ?_⟩
 have g0 : ∀ {X : Addr → Prop}, Go c X ρ δ T.n s.heap ρ δ T.n hh := Go.of_keeps keep
 have off : ∀ z, Live s.heap z → ¬ (z = s.heap.objs.size ∨ ∃ y, (cellsFrom (s.heap.objs.size + 1) fd.scope.names []).lookup y = some z) := by
  intro z ⟨oz, ez⟩ q
  have hz := Heap.lt_size ez
  rcases q with q | ⟨y, q⟩
  ·exact absurd hz (by rw [q]; exact Nat.lt_irrefl _)
  ·have := x.above y z (mem_of_lookup q)
   exact absurd (Nat.lt_trans this hz) (Nat.lt_irrefl _)
 refine e body _ _ _ ρ δ _ _ h11 ⟨fr, hr.of_keeps keep, ?_, ?_, ro.2.2⟩ ?_
 ·have := ro.1; rw [depth_deeper]; omega
 ·have := ro.2.1; rw [units_deeper]; omega
 ·cases f with
  | nxt l' => exact fun ρ' δ' h'' t' g r _ => ct ρ' δ' h'' t' .none ((g0.trans g).weak off) r rfl
  | ret v => exact fun ρ' δ' h'' t' val g r vr => ct ρ' δ' h'' t' val ((g0.trans g).weak off) r vr
end
end Mine
end
section
open PySem PySem.W PyProof.Rows
namespace Mine
noncomputable def Bc (c : Cx) (f : AV) (args : List AV) (d : Nat) (T : Hp) (v : AV) (T' : Hp) : Prop :=
 ∀ (A : Around) (s : Shared) (ρ δ : Nat → Addr) (fv : Value) (vals : List Value) (Q E : Value → Shared → Prop), VR T.n ρ f fv → VRs T.n ρ args vals → HR c ρ δ T T.n s.heap → Room d A → Kv c s ρ δ T T' v Q → wpAny (model c.prog c.w) A (call fv vals) Q E s
noncomputable def Bg (c : Cx) (o : AV) (m : Nat) (id : String) (T : Hp) : Prop :=
 ∀ (A : Around) (s : Shared) (ρ δ : Nat → Addr) (v : Value) (pl : Sem Bool) (Q : Value × List Value → Shared → Prop) (E : Value → Shared → Prop), VR T.n ρ o v → HR c ρ δ T T.n s.heap → Q (.builtin id, [v]) s → wpAny (model c.prog c.w) A (getMethod v (nmS m) pl) Q E s
noncomputable def Bm (c : Cx) (id : String) (o : AV) (args : List AV) (d : Nat) (T : Hp) (v : AV) (T' : Hp) : Prop :=
 ∀ (A : Around) (s : Shared) (ρ δ : Nat → Addr) (ov : Value) (vals : List Value) (Q E : Value → Shared → Prop), VR T.n ρ o ov → VRs T.n ρ args vals → HR c ρ δ T T.n s.heap → Room d A → Kv c s ρ δ T T' v Q → wpAny (model c.prog c.w) A (call (.builtin id) (ov :: vals)) Q E s
section
variable {M : Model} {prog : Program} {w : World} {A : Around} {s : Shared} {env : Env} {E : Value → Shared → Prop}
theorem MEs.plain {kd : Kd} {pos : Pos} {l : PEs} {xs : List PySem.Expr} (ms : MEs l kd xs) : (backTo pos (starEach xs env)).any (·.1) = false ∧ xs.length = lenE l := by
 induction xs generalizing l with
 | nil => cases l with
  | nil => exact ⟨rfl, rfl⟩
  | cons => obtain ⟨_, _, h, _⟩ := ms; cases h
 | cons x xs ih => cases l with
  | nil => cases ms
  | cons e l =>
   obtain ⟨_, _, h, me, ms, ns⟩ := ms
   cases h
   rw [star_no ns]
   exact ⟨(ih ms).1, congrArg (· + 1) (ih ms).2⟩
theorem wp_args {kd : Kd} {pos : Pos} {f : Value} {l : PEs} {xs : List PySem.Expr} {Q : Args → Shared → Prop} (ms : MEs l kd xs) (h : wpAny M A (spliced (backTo pos (starEach xs env))) (fun vs s₁ => Q ⟨vs, []⟩ s₁) E s) :
  wpAny M A (evalArgs f true (backTo pos (starEach xs env)) []) Q E s := by
 cases xs with
 | nil =>
  unfold evalArgs
  show wpAny M A (spliced [] >>= _) Q E s
  refine wpAny_bind (wpAny_mono h (fun vs s' h' => ?_) fun _ _ x => x)
  refine wpAny_holding ?_
  exact wpAny_bind (wpAny_pure (wpAny_bind (wpAny_pure (wpAny_pure h'))))
 | cons x xs => cases l with
  | nil => cases ms
  | cons e l =>
   obtain ⟨_, _, q, me, ms, ns⟩ := ms
   cases q
   rw [star_no ns] at h ⊢
   exact Calls.evalArgs_plain h
theorem wp_meth {kd : Kd} {o : PySem.Expr} {name : Str} {apos pos : Pos} {l : PEs} {xs : List PySem.Expr} {Q : Value → Shared → Prop} (hn : notSuper o = true) (ms : MEs l kd xs) (hl : (apos.endLine == pos.line) = true) (hlen : lenE l < 29)
  (h : wpAny (model prog w) A (eval o env) (fun ov s₁ => ∀ pl, wpAny (model prog w) A (getMethod ov name pl) (fun fx s₂ => wpAny (model prog w) A (callWith pos fx.1 fx.2 (backTo pos (starEach xs env)) []) Q E s₂) E s₁) E s) :
  wpAny (model prog w) A (eval (.Call (.Attribute o name apos) xs [] pos) env) Q E s := by
 show wpAny _ _ (attributeBase o name env (eval o env) >>= fun ov => standAt apos.atName >>= fun _ => methodCall o name apos pos env ov (xs.length + 0) (backTo pos (starEach xs env)) []) _ _ _
 refine wpAny_bind (wp_base hn (wpAny_mono h (fun ov s₁ h₁ => wpAny_bind (wpAny_standAt ?_)) fun _ _ x => x))
 have P := MEs.plain (env := env) (pos := pos) ms
 have hf : methodCallForm (xs.length + 0) (backTo pos (starEach xs env)) [] = true := by
  unfold methodCallForm
  rw [Bool.and_eq_true, Bool.and_eq_true]
  refine ⟨⟨?_, rfl⟩, ?_⟩
  ·rw [List.all_eq_true]
   intro x hx
   have := List.any_eq_false.mp P.1 x hx
   simpa using this
  ·rw [P.2]; simp; omega
 unfold methodCall calleeOf methodCallPos
 rw [hf, if_pos rfl]
 refine wpAny_bind (wpAny_holding (wpAny_mono (h₁ _) (fun fx s₂ h₂ => ?_) fun _ _ x => x))
 rw [hl]
 exact wpAny_bind (wpAny_pure h₂)
end
section
variable {c : Cx} {d : Nat} {loc : Loc} {T T1 T2 T3 : Hp} {v : AV} {vs : List AV} {o : PE} {l : PEs}
theorem R_callF (ok : Ok c) {x a : Nat} {fi : FI} (hx : lk c.G.glb x = some (.obj a)) (hf : lk c.G.fns a = some fi) (e1 : Evs c l d loc T vs T1) (e2 : Ca c a vs d T1 v T2) : Ev c (.call (.glb x) l) d loc T v T2 := by
 rintro _ env A s ρ δ Q E ⟨f', l', p, rfl, ⟨y, np, rfl⟩, mf, ms⟩ a' ct
 have P := MEs.plain (env := env) (pos := p) ms
 refine wpAny_Call_NameR (R_glb ok hx _ env A s ρ δ _ E mf a' fun ρ1 δ1 h' t1 fv g1 hr1 vr1 => ?_)
 rw [vr1]
 refine callWith_of (by rw [P.1]; rfl) (keeps_K (ok.keepF a fi hf)) (wp_args ms (e1 _ env A (Sh s h' t1) ρ1 δ1 _ E p ms (a'.go g1 hr1) fun ρ2 δ2 h2 t2 vals g2 hr2 vr2 => ⟨hr2.k ok, wpAny_call ?_⟩))
 exact e2 A (Sh s h2 t2) ρ2 δ2 _ vals vr2 hr2 a'.ro fun ρ3 δ3 h3 t3 val g3 hr3 vr3 => ct ρ3 δ3 h3 t3 val (g1.trans (g2.trans g3)) hr3 vr3
theorem R_callB (ok : Ok c) {x : Nat} {f : AV} (hx : lk c.G.glb x = some f) (hf : (∃ b, f = .bi b) ∨ ∃ t, f = .typ t) (e1 : Evs c l d loc T vs T1) (e2 : Bc c f vs d T1 v T2) : Ev c (.call (.glb x) l) d loc T v T2 := by
 rintro _ env A s ρ δ Q E ⟨f', l', p, rfl, ⟨y, np, rfl⟩, mf, ms⟩ a' ct
 have P := MEs.plain (env := env) (pos := p) ms
 refine wpAny_Call_NameR (R_glb ok hx _ env A s ρ δ _ E mf a' fun ρ1 δ1 h' t1 fv g1 hr1 vr1 => ?_)
 have args : ∀ {f' : Value}, wpAny (model c.prog c.w) A (evalArgs f' true (backTo p (starEach l' env)) []) (fun as s₁ => wpAny (model c.prog c.w) A (call fv ([] ++ as.pos) as.kw) Q E s₁) E (Sh s h' t1) := fun {f'} =>
  wp_args ms (e1 _ env A (Sh s h' t1) ρ1 δ1 _ E p ms (a'.go g1 hr1) fun ρ2 δ2 h2 t2 vals g2 hr2 vr2 => e2 A (Sh s h2 t2) ρ2 δ2 fv vals Q E (g2.vr vr1) vr2 hr2 a'.ro fun ρ3 δ3 h3 t3 val g3 hr3 vr3 => ct ρ3 δ3 h3 t3 val (g1.trans (g2.trans g3)) hr3 vr3)
 rcases hf with ⟨b, rfl⟩ | ⟨t, rfl⟩
 ·obtain rfl := vr1
  exact Calls.callWith_builtin P.1 args
 ·obtain rfl := vr1
  exact PySem.callWith_type P.1 args
theorem R_new (ok : Ok c) {x a fi : Nat} {ci : CI} (hx : lk c.G.glb x = some (.obj a)) (hc : lk c.G.cls a = some ci) (hi : lk ci.meths 6944679725401530464 = some fi) (e1 : Evs c l (d + 1) loc T vs T1) (e2 : Ca c fi (.ref T1.n :: vs) d (hnew T1 (.inst a [])) .none T2) : Ev c (.call (.glb x) l) (d + 1) loc T (.ref T1.n) T2 := by
 rintro _ env A s ρ δ Q E ⟨f', l', p, rfl, ⟨y, np, rfl⟩, mf, ms⟩ a' ct
 have P := MEs.plain (env := env) (pos := p) ms
 have CO := ok.cls a ci hc
 obtain ⟨m1, m2, m3, m4⟩ := CO.meths _ _ hi
 refine wpAny_Call_NameR (R_glb ok hx _ env A s ρ δ _ E mf a' fun ρ1 δ1 h' t1 fv g1 hr1 vr1 => ?_)
 rw [vr1]
 refine callWith_of (by rw [P.1]; rfl) (keeps_K CO.keep) (wp_args ms (e1 _ env A (Sh s h' t1) ρ1 δ1 _ E p ms (a'.go g1 hr1) fun ρ2 δ2 hh t2 vals g2 hr2 va => ⟨hr2.k ok, wpAny_call ?_⟩))
 have X := hr2.k ok
 have m1' : findIn c.K (.ref a) "__init__" = some (some (.ref fi)) := by
  rw [← m1]; exact congrArg _ (by decide +kernel)
 refine make_core (makes_of X CO.makes) (looks_findIn X m1') (fun self => bind_fn X self m2) (.inl rfl) ?_
 have k1 : ∀ b ob, hh.get? b = some ob → ((hh.push emptyDict).push (instObj a hh.objs.size)).get? b = some ob := fun b ob q => Heap.get?_push_of_some _ (Heap.get?_push_of_some _ q)
 have i1 : ((hh.push emptyDict).push (instObj a hh.objs.size)).get? (hh.objs.size + 1) = some (instObj a hh.objs.size) := by
  have := Heap.get?_push_size (hh.push emptyDict) (o := instObj a hh.objs.size) rfl
  rwa [Heap.size_push] at this
 have i2 : ((hh.push emptyDict).push (instObj a hh.objs.size)).get? hh.objs.size = some (dictOf [] 0) := Heap.get?_push_of_some _ (Heap.get?_push_size _ rfl)
 obtain ⟨r1, gg⟩ := hr2.grow (X := No) (ao := .inst a []) (a := hh.objs.size + 1) (d := hh.objs.size) (get_hnew T1 _) (dead_end _ (Nat.le_succ _)) (dead_end _ (Nat.le_refl _)) ⟨_, i1⟩ ⟨_, i2⟩ k1 ⟨i1, [], 0, i2, trivial⟩
 refine e2 _ _ _ _ _ _ ⟨⟨Nat.lt_succ_self _, by rw [ext_at]⟩, ext_vrs va⟩ r1 ⟨?_, ?_, a'.ro.2.2⟩ fun ρ3 δ3 h3 t3 val g3 hr3 vr3 => ⟨vr3, ?_⟩
 ·have := a'.ro.1; rw [depth_under_make]; omega
 ·have := a'.ro.2.1; show A.units + 1 + 20 * d < 9000; omega
 ·refine ct ρ3 δ3 h3 t3 _ (g1.trans (g2.trans (gg.trans g3))) hr3 ⟨Nat.lt_of_lt_of_le (Nat.lt_succ_self _) g3.le, ?_⟩
  rw [(g3.same T1.n (Nat.lt_succ_self _)).1, ext_at]
theorem R_meth (ok : Ok c) {m r C f : Nat} {fs : List (Nat × AV)} {ci : CI} (e1 : Ev c o d loc T (.ref r) T1) (ho : T1.get r = some (.inst C fs)) (hc : lk c.G.cls C = some ci) (hm : lk ci.meths m = some f) (hnf : lk fs m = none) (e2 : Evs c l d loc T1 vs T2) (e3 : Ca c f (.ref r :: vs) d T2 v T3) : Ev c (.meth o m l) d loc T v T3 := by
 rintro _ env A s ρ δ Q E ⟨o', l', ap, p, rfl, mo, ns, ms, hl, hlen⟩ a' ct
 have P := MEs.plain (env := env) (pos := p) ms
 have CO := ok.cls C ci hc
 obtain ⟨m1, m2, m3, m4⟩ := CO.meths _ _ hm
 refine wp_meth ns ms hl hlen (e1 _ env A s ρ δ _ E mo a' fun ρ1 δ1 h' t1 va g1 hr1 vr1 pl => ?_)
 rw [vr1.2]
 obtain ⟨es, k, I, F⟩ := InstAt_of (hr1.obj r _ ho).2
 have sh : shadowIn (some (dictOf es k)) (nmS m) = some false := by
  unfold shadowIn
  dsimp only
  rw [(lookIn_fs (k := k) (a := m) F).2 hnf]; rfl
 refine method_fn (s := Sh s h' t1) (hr1.k ok) I CO.ga CO.hk m1 m2 sh ?_
 refine callWith_of (by rw [P.1]; rfl) (keeps_K m3) (wp_args ms (e2 _ env A (Sh s h' t1) ρ1 δ1 _ E p ms (a'.go g1 hr1) fun ρ2 δ2 h2 t2 vals g2 hr2 vr2 => ⟨hr2.k ok, wpAny_call ?_⟩))
 exact e3 A (Sh s h2 t2) ρ2 δ2 _ _ ⟨g2.vr (a := .ref r) ⟨vr1.1, rfl⟩, vr2⟩ hr2 a'.ro fun ρ3 δ3 h3 t3 val g3 hr3 vr3 => ct ρ3 δ3 h3 t3 val (g1.trans (g2.trans g3)) hr3 vr3
theorem R_methB {m : Nat} {ov : AV} {id : String} (e1 : Ev c o d loc T ov T1) (hg : Bg c ov m id T1) (e2 : Evs c l d loc T1 vs T2) (e3 : Bm c id ov vs d T2 v T3) : Ev c (.meth o m l) d loc T v T3 := by
 rintro _ env A s ρ δ Q E ⟨o', l', ap, p, rfl, mo, ns, ms, hl, hlen⟩ a' ct
 have P := MEs.plain (env := env) (pos := p) ms
 refine wp_meth ns ms hl hlen (e1 _ env A s ρ δ _ E mo a' fun ρ1 δ1 h' t1 va g1 hr1 vr1 pl => ?_)
 refine hg A (Sh s h' t1) ρ1 δ1 va pl _ E vr1 hr1 ?_
 refine Calls.callWith_builtin P.1 (wp_args ms (e2 _ env A (Sh s h' t1) ρ1 δ1 _ E p ms (a'.go g1 hr1) fun ρ2 δ2 h2 t2 vals g2 hr2 vr2 => ?_))
 exact e3 A (Sh s h2 t2) ρ2 δ2 va vals Q E (g2.vr vr1) vr2 hr2 a'.ro fun ρ3 δ3 h3 t3 val g3 hr3 vr3 => ct ρ3 δ3 h3 t3 val (g1.trans (g2.trans g3)) hr3 vr3
end
end Mine
end
section
open PySem PySem.W PyProof.Rows
namespace Mine
section
variable {M : Model} {A : Around} {s : Shared} {env : Env} {E : Value → Shared → Prop}
theorem truthy_bool {b : Bool} {Q : Bool → Shared → Prop} (h : Q b s) : wpAny M A (truthy (.bool b)) Q E s := wpAny_pure h
theorem wp_tcmp {x y : PySem.Expr} {o1 : CmpOp} {pos : Pos} {whole : Sem Value} {Q : Bool → Shared → Prop} (h1 : behindInMarks o1 y = false)
  (h : wpAny M A (eval x env) (fun a s₁ => wpAny M A (eval y env) (fun b s₂ => wpAny M A (compareOp o1 a b) (fun r s₃ => wpAny M A (truthy r) Q E s₃) E s₂) E s₁) E s) :
  wpAny M A (isTrue (.Compare x [o1] [y] pos) env whole) Q E s := by
 rw [isTrue_Compare1, markedBehindIn_of_false h1]
 refine wpAny_bind (wpAny_mono h (fun a s₁ h₁ => wpAny_bind (wpAny_holding (wpAny_mono h₁ (fun b s₂ h₂ => wpAny_bind (wpAny_standAt (wpAny_bind ?_))) fun _ _ q => q))) fun _ _ q => q)
 refine fun Γ p hΓ => ?_
 rw [Sem.wp_operate]
 exact wpAny_mono h₂ (fun r s₃ h₃ => wpAny_holding h₃) (fun _ _ q => q) Γ p hΓ
end

noncomputable def Bi (c : Cx) (op : Bop) (a b : AV) (T : Hp) (v : AV) (T' : Hp) : Prop :=
 ∀ (A : Around) (s : Shared) (ρ δ : Nat → Addr) (va vb : Value) (Q E : Value → Shared → Prop), HR c ρ δ T T.n s.heap → VR T.n ρ a va → VR T.n ρ b vb → Kv c s ρ δ T T' v Q → wpAny (model c.prog c.w) A (binaryOp op.op va vb) Q E s
noncomputable def Cm (c : Cx) (op : Cop) (a b : AV) (T : Hp) (t : Bool) : Prop :=
 ∀ (d : Nat) (A : Around) (s : Shared) (ρ δ : Nat → Addr) (va vb : Value) (Q E : Value → Shared → Prop), HR c ρ δ T T.n s.heap → Room d A → VR T.n ρ a va → VR T.n ρ b vb →
  (∀ h' t', Go c No ρ δ T.n s.heap ρ δ T.n h' → HR c ρ δ T T.n h' → Q (.bool t) (Sh s h' t')) → wpAny (model c.prog c.w) A (compareOp op.op va vb) Q E s
noncomputable def Ts (c : Cx) (w : Bool) (l : PEs) (d : Nat) (loc : Loc) (T : Hp) (b : Bool) (T' : Hp) : Prop :=
 ∀ (x : List PySem.Expr) (env : Env) (A : Around) (s : Shared) (ρ δ : Nat → Addr) (Q : Bool → Shared → Prop) (E : Value → Shared → Prop), MEs l env.kindOf x → At c d loc T env A s ρ δ →
  (∀ ρ' δ' h' t', Go c No ρ δ T.n s.heap ρ' δ' T'.n h' → HR c ρ' δ' T' T'.n h' → Q b (Sh s h' t')) → wpAny (model c.prog c.w) A (allTrue (if w then .And else .Or) x env) Q E s
section
variable {c : Cx} {d : Nat} {loc : Loc} {T T1 T2 T3 : Hp} {v a b x : AV} {e e2 e3 : PE} {l : PEs} {t w : Bool}
theorem R_bin {op : Bop} (e1 : Ev c e d loc T a T1) (h2 : Ev c e2 d loc T1 b T2) (hb : Bi c op a b T2 v T3) : Ev c (.bin op e e2) d loc T v T3 := by
 rintro _ env A s ρ δ Q E ⟨l', r', p, rfl, ml, mr⟩ at' ct
 refine wpAny_BinOp (e1 _ env A s ρ δ _ E ml at' fun ρ1 δ1 h1 t1 va g1 hr1 vr1 => ?_)
 refine h2 _ env A (Sh s h1 t1) ρ1 δ1 _ E mr (at'.go g1 hr1) fun ρ2 δ2 h2 t2 vb g2 hr2 vr2 => ?_
 exact hb A (Sh s h2 t2) ρ2 δ2 va vb Q E hr2 (g2.vr vr1) vr2 (Kv.go ct (g1.trans g2))
theorem R_cmp {op : Cop} (e1 : Ev c e d loc T a T1) (h2 : Ev c e2 d loc T1 b T2) (hb : Cm c op a b T2 t) : Ev c (.cmp op e e2) d loc T (.bool t) T2 := by
 rintro _ env A s ρ δ Q E ⟨l', r', p, rfl, ml, mr, hm⟩ at' ct
 refine wpAny_Compare1 (e1 _ env A s ρ δ _ E ml at' fun ρ1 δ1 h1 t1 va g1 hr1 vr1 => ?_) hm
 refine h2 _ env A (Sh s h1 t1) ρ1 δ1 _ E mr (at'.go g1 hr1) fun ρ2 δ2 h2 t2 vb g2 hr2 vr2 => ?_
 exact hb d A (Sh s h2 t2) ρ2 δ2 va vb Q E hr2 at'.ro (g2.vr vr1) vr2 fun h3 t3 g3 r3 => ct ρ2 δ2 h3 t3 _ (g1.trans (g2.trans g3)) r3 rfl
theorem T_cmp {op : Cop} (e1 : Ev c e d loc T a T1) (h2 : Ev c e2 d loc T1 b T2) (hb : Cm c op a b T2 t) : Tr c (.cmp op e e2) d loc T t T2 := by
 rintro _ env A s ρ δ Q E ⟨l', r', p, rfl, ml, mr, hm⟩ at' ct
 refine wp_tcmp hm (e1 _ env A s ρ δ _ E ml at' fun ρ1 δ1 h1 t1 va g1 hr1 vr1 => ?_)
 refine h2 _ env A (Sh s h1 t1) ρ1 δ1 _ E mr (at'.go g1 hr1) fun ρ2 δ2 h2 t2 vb g2 hr2 vr2 => ?_
 exact hb d A (Sh s h2 t2) ρ2 δ2 va vb _ E hr2 at'.ro (g2.vr vr1) vr2 fun h3 t3 g3 r3 => truthy_bool (ct ρ2 δ2 h3 t3 (g1.trans (g2.trans g3)) r3)
theorem T_not (e1 : Tr c e d loc T t T1) : Tr c (.not e) d loc T (!t) T1 := by
 rintro _ env A s ρ δ Q E ⟨e', p, rfl, me⟩ at' ct
 show wpAny _ _ (isTrue e' env (eval e' env) >>= fun t => pure !t) _ _ _
 exact wpAny_bind (e1 _ env A s ρ δ _ E me at' fun ρ1 δ1 h1 t1 g1 hr1 => wpAny_pure (ct ρ1 δ1 h1 t1 g1 hr1))
theorem R_neg {i : Int} (e1 : Ev c e d loc T (.int i) T1) : Ev c (.neg e) d loc T (.int (-i)) T1 := by
 rintro _ env A s ρ δ Q E ⟨e', p, rfl, me⟩ at' ct
 refine wpAny_UnaryOp (e1 _ env A s ρ δ _ E me at' fun ρ1 δ1 h1 t1 va g1 hr1 vr1 => ?_)
 obtain ⟨t, rfl⟩ := vr1
 exact P.neg_int (ct ρ1 δ1 h1 _ _ g1 hr1 ⟨_, rfl⟩)
theorem T_and (h : Ts c true l d loc T t T1) : Tr c (.and l) d loc T t T1 := by
 rintro _ env A s ρ δ Q E ⟨l', p, rfl, ms⟩ at' ct
 exact h _ env A s ρ δ Q E ms at' ct
theorem T_or (h : Ts c false l d loc T t T1) : Tr c (.or l) d loc T t T1 := by
 rintro _ env A s ρ δ Q E ⟨l', p, rfl, ms⟩ at' ct
 exact h _ env A s ρ δ Q E ms at' ct
theorem Ts_nil : Ts c w .nil d loc T w T := by
 rintro _ env A s ρ δ Q E rfl at' ct
 refine wpAny_pure ?_
 have := ct ρ δ s.heap s.toks Go.refl at'.hr
 cases w <;> exact this
theorem Ts_go (e1 : Tr c e d loc T w T1) (h2 : Ts c w l d loc T1 t T2) : Ts c w (.cons e l) d loc T t T2 := by
 rintro _ env A s ρ δ Q E ⟨x, xs, rfl, me, ms, ns⟩ at' ct
 show wpAny _ _ (isTrue x env (eval x env) >>= fun t => match (if w then BoolOp.And else .Or), t with | .And, false => pure false | .Or, true => pure true | _, _ => allTrue (if w then .And else .Or) xs env) _ _ _
 refine wpAny_bind (e1 _ env A s ρ δ _ E me at' fun ρ1 δ1 h1 t1 g1 hr1 => ?_)
 have key := h2 _ env A (Sh s h1 t1) ρ1 δ1 Q E ms (at'.go g1 hr1) fun ρ2 δ2 h2 t2 g2 hr2 => ct ρ2 δ2 h2 t2 (g1.trans g2) hr2
 cases w <;> exact key
theorem Ts_stop (e1 : Tr c e d loc T (!w) T1) : Ts c w (.cons e l) d loc T (!w) T1 := by
 rintro _ env A s ρ δ Q E ⟨x, xs, rfl, me, ms, ns⟩ at' ct
 show wpAny _ _ (isTrue x env (eval x env) >>= fun t => match (if w then BoolOp.And else .Or), t with | .And, false => pure false | .Or, true => pure true | _, _ => allTrue (if w then .And else .Or) xs env) _ _ _
 refine wpAny_bind (e1 _ env A s ρ δ _ E me at' fun ρ1 δ1 h1 t1 g1 hr1 => ?_)
 have key := ct ρ1 δ1 h1 t1 g1 hr1
 cases w <;> exact wpAny_pure key
noncomputable def plainT : PE → Bool
 | .loc _ => true | .attr .. => true | .call .. => true | .meth .. => true | .glb _ => true | .sub .. => true
 | _ => false
theorem isT_plain {kd : Kd} {x : PySem.Expr} (h : plainT e = true) (me : ME e kd x) (env : Env) (whole : Sem Value) : isTrue x env whole = (whole >>= fun v => standAt x.pos >>= fun _ => holding [v] (truthy v)) := by
 cases e <;> first
  | exact Bool.noConfusion h
  | (obtain ⟨_, rfl, _⟩ := me; rfl)
  | (obtain ⟨_, _, rfl, _⟩ := me; rfl)
  | (obtain ⟨_, _, _, rfl, _⟩ := me; rfl)
  | (obtain ⟨_, _, _, _, rfl, _⟩ := me; rfl)
theorem T_plain (h : plainT e = true) (e1 : Ev c e d loc T (.bool t) T1) : Tr c e d loc T t T1 := by
 intro x env A s ρ δ Q E me at' ct
 rw [isT_plain h me]
 refine wpAny_bind (e1 _ env A s ρ δ _ E me at' fun ρ1 δ1 h1 t1 va g1 hr1 vr1 => wpAny_bind (wpAny_standAt (wpAny_holding ?_)))
 rw [vr1]
 exact truthy_bool (ct ρ1 δ1 h1 t1 g1 hr1)
end
end Mine
end
section
open PySem PySem.W PyProof.Rows
namespace Mine
section
variable {prog : Program} {w : World} {A : Around} {E : Value → Shared → Prop} {s : Shared}
theorem draw_list {it t : Addr} {items : Array Value} (hne : t ≠ it) : ∀ (n i : Nat) (s : Shared) (Q : List Value → Shared → Prop), s.heap.IsListIter it t i → s.heap.IsList t items → i + n ≤ items.size →
  (∀ h', h'.IsListIter it t (i + n) → Heap.SameBut it s.heap h' → Q ((items.toList.drop i).take n) { s with heap := h' }) → wpAny (model prog w) A (draw (.ref it) n) Q E s
 | 0, i, s, Q, hit, _, _, hQ => by
  show wpAny _ _ (pure []) Q E s
  exact wpAny_pure (by simpa using hQ s.heap hit (Heap.SameBut.refl ..))
 | n + 1, i, s, Q, hit, ht, hle, hQ => by
  have hlt : i < items.size := by omega
  show wpAny _ _ (pyNext (.ref it) >>= _) Q E s
  refine wpAny_bind (wpAny_pyNext_list_item hit ht (x := items[i]) (by simp [hlt]) fun h₁ hit₁ hs₁ => ?_)
  refine wpAny_bind (wpAny_holding (draw_list hne n (i + 1) _ _ hit₁ (ht.extBut hs₁.extBut hne) (by omega) fun h₂ hit₂ hs₂ => wpAny_pure ?_))
  have hd : items.toList.drop i = items[i] :: items.toList.drop (i + 1) := by simp [List.drop_eq_getElem_cons, hlt]
  have := hQ h₂ (by rw [show i + (n + 1) = i + 1 + n by omega]; exact hit₂) (hs₁.trans hs₂)
  rw [hd, List.take_succ_cons] at this
  exact this
theorem isList_push {h : Heap} {t : Addr} {items : Array Value} (ht : h.IsList t items) (o : Obj) : (h.push o).IsList t items := by
 obtain ⟨x, h1, h2⟩ := ht
 exact ⟨x, Heap.get?_push_of_some _ h1, h2⟩
theorem unpackItems_list {t : Addr} {items : Array Value} {Q : List Value → Shared → Prop} (hh : A.handled = none) (ht : s.heap.IsList t items)
  (hQ : ∀ h', Heap.ExtBut s.heap.objs.size s.heap h' → Q items.toList { s with heap := h' }) : wpAny (model prog w) A (unpackItems (.ref t) items.size none) Q E s := by
 have hlt : t ≠ s.heap.objs.size := by obtain ⟨o, ho, _⟩ := ht; exact Nat.ne_of_lt (Heap.lt_size ho)
 unfold unpackItems
 refine wpAny_bind ?_
 ·unfold notIterableAtAll
  refine wpAny_bind (wpAny_specialOf ht.typeIs slot_list_iter.lookup ?_)
  refine wpAny_pure ?_
  simp only [Bool.false_eq_true, if_false]
  refine wpAny_bind (wpAny_holding (wpAny_pyIter_list ht ?_))
  refine wpAny_bind (wpAny_holding (draw_list hlt items.size 0 _ _ ⟨_, Heap.get?_push_size _ rfl, rfl, rfl⟩ (isList_push ht _) (by omega) fun h₁ hit₁ hs₁ => ?_))
  have hall : List.take items.size (List.drop 0 items.toList) = items.toList := by
   rw [List.drop_zero]; exact List.take_of_length_le (by simp)
  rw [hall]
  rw [if_neg (by simp)]
  have ht₁ : h₁.IsList t items := (isList_push ht _).extBut hs₁.extBut hlt
  refine wpAny_bind (wpAny_holding (wpAny_pyNext_list_end hh hit₁ ht₁ (by simp) fun h₂ he₂ => ?_))
  simp only [Option.isSome_none, Bool.false_eq_true, if_false]
  refine wpAny_pure (hQ h₂ fun b o hb e => he₂ b o hb (hs₁.extBut b o hb (Heap.get?_push_of_some _ e)))
end
section
variable {c : Cx} {loc : Loc} {T : Hp} {d n : Nat} {env : Env} {A : Around} {s : Shared} {ρ δ : Nat → Addr} {E : Value → Shared → Prop}
theorem items_snd {r : Nat} {vs : List AV} {Q : List Value → Shared → Prop} (hr : HR c ρ δ T n s.heap) (ro : Room d A) (ho : T.get r = some (.tuple vs) ∨ T.get r = some (.list vs))
  (nx : ∀ h' vals, (∀ b o, s.heap.get? b = some o → h'.get? b = some o) → VRs n ρ vs vals → Q vals { s with heap := h' }) : wpAny (model c.prog c.w) A (unpackItems (.ref (ρ r)) vs.length none) Q E s := by
 rcases ho with ho | ho
 ·obtain ⟨vals, k, h1, h2⟩ := (hr.obj r _ ho).2
  have ht : s.heap.IsTuple (ρ r) vals.toArray := ⟨_, h1, rfl, k, rfl⟩
  rw [show vs.length = vals.toArray.size by rw [List.size_toArray, h2.len]]
  exact wpAny_unpackItems_tuple ro.2.2 ht fun h' he => by
   have := nx h' vals (fun b o e => he b o (Nat.ne_of_lt (Heap.lt_size e)) e) h2
   simpa using this
 ·obtain ⟨vals, k, h1, h2⟩ := (hr.obj r _ ho).2
  have ht : s.heap.IsList (ρ r) vals.toArray := ⟨_, h1, rfl, k, rfl⟩
  rw [show vs.length = vals.toArray.size by rw [List.size_toArray, h2.len]]
  exact unpackItems_list ro.2.2 ht fun h' he => by
   have := nx h' vals (fun b o e => he b o (Nat.ne_of_lt (Heap.lt_size e)) e) h2
   simpa using this
noncomputable def Binds (env : Env) (x : Nat) (f : Value → Sem Unit) : Prop := ∀ v, (∃ p, f v = (standAt p >>= fun _ => bindName env (nmS x) v)) ∨ f v = bindName env (nmS x) v
noncomputable def BindsAll (env : Env) : List Nat → List (Value → Sem Unit) → Prop
 | [], [] => True
 | x :: xs, f :: fs => Binds env x f ∧ BindsAll env xs fs
 | _, _ => False
noncomputable def setAll : List Nat → List AV → Loc → Option Loc
 | [], [], l => some l
 | x :: xs, v :: vs, l => setAll xs vs (pt l x v)
 | _, _, _ => none
theorem names_snd {X : Addr → Prop} {Q : Unit → Shared → Prop} (xs : List Nat) : ∀ (vs : List AV) (vals : List Value) (loc loc' : Loc) (s : Shared) (fs : List (Value → Sem Unit)), setAll xs vs loc = some loc' → (∀ x ∈ xs, mine? (env.kindOf (nmS x)) = true) → FR c ρ δ n loc env s.heap → HR c ρ δ T n s.heap → VRs n ρ vs vals →
  (∀ h' t', Go c X ρ δ n s.heap ρ δ n h' → HR c ρ δ T n h' → FR c ρ δ n loc' env h' → Q () (Sh s h' t')) → BindsAll env xs fs → (∀ x ∈ xs, StX env X x) → wpAny (model c.prog c.w) A (assignInOrder fs vals) Q E s := by
 induction xs with
 | nil =>
  intro vs vals loc loc' s fs e hm fr hr vr nx hf hX
  cases fs with
  | cons => exact hf.elim
  | nil =>
   cases vs with
   | cons => cases e
   | nil =>
    cases e
    exact wpAny_pure (nx s.heap s.toks Go.refl hr fr)
 | cons x xs ih =>
  intro vs vals loc loc' s fs e hm fr hr vr nx hf hX
  cases fs with
  | nil => exact hf.elim
  | cons f fs =>
   cases vs with
   | nil => cases e
   | cons v vs =>
    cases vals with
    | nil => exact vr.elim
    | cons val vals =>
     show wpAny _ _ (holding vals (f val) >>= fun _ => assignInOrder fs vals) _ _ _
     refine wpAny_bind (wpAny_holding ?_)
     have key : wpAny (model c.prog c.w) A (bindName env (nmS x) val) (fun _ s' => wpAny (model c.prog c.w) A (assignInOrder fs vals) Q E s') E s := by
      refine wpAny_bindName (store_snd (X := X) fr hr vr.1 (hm x (.head _)) (fun h' t' g r f' => ?_) (hX x (.head _)))
      exact ih vs vals _ loc' (Sh s h' t') fs e (fun y hy => hm y (.tail _ hy)) f' r vr.2 (fun h'' t'' g' => nx h'' t'' (g.trans g')) hf.2 (fun y hy => hX y (.tail _ hy))
     rcases hf.1 val with ⟨p, q⟩ | q
     ·rw [q]; exact wpAny_bind (wpAny_standAt key)
     ·rw [q]; exact key
theorem setAll_len {xs : List Nat} {vs : List AV} {l l' : Loc} (e : setAll xs vs l = some l') : xs.length = vs.length := by
 induction xs generalizing vs l with
 | nil => cases vs with
  | nil => rfl
  | cons => cases e
 | cons x xs ih => cases vs with
  | nil => cases e
  | cons v vs => exact congrArg (· + 1) (ih e)
theorem MNs.each {xs : List Nat} {l : List PySem.Expr} (h : MNs env.kindOf xs l) : (∀ x ∈ xs, mine? (env.kindOf (nmS x)) = true) ∧ (assignEach l env).length = xs.length ∧ (assignEach l env).findIdx? (·.1) = none ∧ BindsAll env xs ((assignEach l env).map (·.2)) := by
 induction xs generalizing l with
 | nil => cases h; exact ⟨fun _ h => (nomatch h), rfl, rfl, trivial⟩
 | cons x xs ih =>
  obtain ⟨np, l, rfl, h1, h2⟩ := h
  obtain ⟨a, b, c', d'⟩ := ih h2
  have e1 : assignEach (.Name (nmS x) np :: l) env = (false, assign (.Name (nmS x) np) env) :: assignEach l env := rfl
  rw [e1]
  refine ⟨fun y hy => ?_, congrArg (· + 1) b, ?_, ⟨fun v => .inl ⟨np, rfl⟩, d'⟩⟩
  ·rcases List.mem_cons.mp hy with rfl | hy
   ·exact h1
   ·exact a y hy
  ·rw [List.findIdx?_cons, c']; rfl
noncomputable def BindTo (T : Hp) (xs : List Nat) (v : AV) (loc loc' : Loc) : Prop :=
 (∃ x, xs = [x] ∧ loc' = pt loc x v) ∨ (2 ≤ xs.length ∧ ∃ r vs, v = .ref r ∧ (T.get r = some (.tuple vs) ∨ T.get r = some (.list vs)) ∧ setAll xs vs loc = some loc')
theorem bind_one {x : Nat} {v : AV} : BindTo T [x] v loc (pt loc x v) := .inl ⟨x, rfl, rfl⟩
theorem tuple_snd {X : Addr → Prop} {xs : List Nat} {l : List PySem.Expr} {k r : Nat} {p : Pos} {vs : List AV} {loc' : Loc} {Q : Unit → Shared → Prop} (hm : MNs env.kindOf xs l) (ho : T.get r = some (.tuple vs) ∨ T.get r = some (.list vs)) (hs : setAll xs vs loc = some loc') (fr : FR c ρ δ n loc env s.heap) (hr : HR c ρ δ T n s.heap) (ro : Room d A)
  (nx : ∀ h' t', Go c X ρ δ n s.heap ρ δ n h' → HR c ρ δ T n h' → FR c ρ δ n loc' env h' → Q () (Sh s h' t')) (hX : ∀ x ∈ xs, StX env X x) : wpAny (model c.prog c.w) A (assign (.Tuple l k p) env (.ref (ρ r))) Q E s := by
 obtain ⟨m1, m2, m3, m4⟩ := hm.each
 rw [arm_assign_Tuple]
 refine wpAny_bind (wpAny_standAt ?_)
 unfold unpack
 rw [m2, m3]
 show wpAny (model c.prog c.w) A (holding [.ref (ρ r)] (unpackItems (.ref (ρ r)) xs.length none) >>= fun items => assignInOrder ((assignEach l env).map (·.2)) items) Q E s
 rw [setAll_len hs]
 refine wpAny_bind (wpAny_holding (items_snd hr ro ho fun h' vals k vr' => ?_))
 exact names_snd xs vs vals loc loc' { s with heap := h' } _ hs m1 (fr.go (Go.of_keeps (X := No) k)) (hr.of_keeps k) vr' (fun h'' t'' g r f => nx h'' t'' ((Go.of_keeps k).trans g) r f) m4 hX
theorem bind_snd {X : Addr → Prop} {xs : List Nat} {tg : PySem.Expr} {v : AV} {val : Value} {loc' : Loc} {Q : Unit → Shared → Prop} (hb : BindTo T xs v loc loc') (mt : MT env.kindOf xs tg) (fr : FR c ρ δ n loc env s.heap) (hr : HR c ρ δ T n s.heap) (ro : Room d A) (vr : VR n ρ v val)
  (nx : ∀ h' t', Go c X ρ δ n s.heap ρ δ n h' → HR c ρ δ T n h' → FR c ρ δ n loc' env h' → Q () (Sh s h' t')) (hX : ∀ x ∈ xs, StX env X x := by exact fun _ _ => stx_own) : wpAny (model c.prog c.w) A (assign tg env val) Q E s := by
 rcases mt with ⟨x, np, rfl, rfl, hk⟩ | ⟨l, k, p, h2, rfl, hm⟩
 ·rcases hb with ⟨y, q, rfl⟩ | ⟨q, _⟩
  ·cases q
   exact wpAny_bind (wpAny_standAt (wpAny_bindName (store_snd fr hr vr hk nx (hX _ (.head _)))))
  ·exact absurd q (by simp)
 ·rcases hb with ⟨y, q, rfl⟩ | ⟨_, r, vs, rfl, ho, hs⟩
  ·rw [q] at h2; exact absurd h2 (by simp)
  ·rw [vr.2]
   exact tuple_snd hm ho hs fr hr ro nx hX
end
theorem swapped_eq {env : Env} {ts vs : List PySem.Expr} {k a : Nat} {tp b : Pos} {names : List Str} (hk : env.scope.kind = .function) (h : swapB env.kindOf ts vs = some names) : swappedStores [.Tuple ts k tp] (.Tuple vs a b) env = pure (some names) := by
 unfold swapB at h
 split at h
 ·cases h
 ·rename_i c1
  split at h
  ·cases h
  ·rename_i c2
   dsimp only at h
   split at h
   ·cases h
   ·rename_i c3
    split at h
    ·cases h
    ·rename_i c4
     split at h
     ·cases h
     ·rename_i c5
      have bk : env.blockKind = .function := by unfold Env.blockKind; rw [hk]; rfl
      have bk' : (env.blockKind != .function) = false := by rw [bk]; rfl
      cases h
      unfold swappedStores
      dsimp only
      rw [bk', Bool.or_false]
      refine (if_neg c1).trans ?_
      refine (if_neg c2).trans ?_
      refine (if_neg c3).trans ?_
      refine (if_neg c4).trans ?_
      exact if_neg c5
theorem swapB_local {kd : Kd} {ts vs : List PySem.Expr} {names : List Str} (h : swapB kd ts vs = some names) : ∀ x ∈ names, kd x = some .local := by
 unfold swapB at h
 split at h
 ·cases h
 ·split at h
  ·cases h
  ·dsimp only at h
   split at h
   ·cases h
   ·split at h
    ·cases h
    ·split at h
     ·cases h
     ·cases h
      intro x hx
      obtain ⟨e, he, q⟩ := List.mem_filterMap.mp hx
      split at q
      ·rename_i id pos
       split at q
       ·rename_i z
        cases q
        exact eq_of_beq (Bool.and_eq_true_iff.mp z).1
       ·cases q
      ·cases q
theorem VRs.append {n : Nat} {ρ : Nat → Addr} {a b : List AV} {v w : List Value} (h : VRs n ρ a v) (h2 : VRs n ρ b w) : VRs n ρ (a ++ b) (v ++ w) := by
 induction a generalizing v with
 | nil => cases v with
  | nil => exact h2
  | cons => exact h.elim
 | cons x a ih => cases v with
  | nil => exact h.elim
  | cons y v => exact ⟨h.1, ih h.2⟩
theorem VRs_reverse {n : Nat} {ρ : Nat → Addr} {a : List AV} {v : List Value} (h : VRs n ρ a v) : VRs n ρ a.reverse v.reverse := by
 induction a generalizing v with
 | nil => cases v with
  | nil => trivial
  | cons => exact h.elim
 | cons x a ih => cases v with
  | nil => exact h.elim
  | cons y v =>
   rw [List.reverse_cons, List.reverse_cons]
   exact (ih h.2).append ⟨h.1, trivial⟩
theorem binds_names {env : Env} (xs : List Nat) : BindsAll env xs ((xs.map nmS).map fun n => bindName env n) := by
 induction xs with
 | nil => trivial
 | cons x xs ih => exact ⟨fun v => .inr rfl, ih⟩
section
variable {c : Cx} {d : Nat} {loc loc' : Loc} {T T1 : Hp} {e : PE} {vs : List AV} {xs : List Nat} {r : Nat}
theorem R_asgT (e1 : Ev c e d loc T (.ref r) T1) (ho : T1.get r = some (.tuple vs) ∨ T1.get r = some (.list vs)) (hs : setAll xs vs loc = some loc') : St c (.asgT xs e) d loc T (.nxt loc') T1 := by
 rintro _ env A s ρ δ Q E ⟨l, k, tp, e', p, rfl, me, mn, _, nt⟩ a ct
 refine wpAny_Assign_stores (e1 _ env A s ρ δ _ E me a fun ρ1 δ1 h' t1 va g1 hr1 vr1 => ?_) (by cases e' <;> rfl) (by cases e' <;> first | rfl | cases nt)
 show wpAny _ _ (assign (.Tuple l k tp) env va) _ _ _
 rw [vr1.2]
 exact tuple_snd (X := Own env) (s := Sh s h' t1) mn ho hs (a.fr.go g1) hr1 a.ro (fun h2 t2 g2 r2 f2 => ct ρ1 δ1 h2 t2 (g1.any.trans g2) r2 f2) fun _ _ => stx_own
theorem R_asgW (e1 : Ev c e d loc T (.ref r) T1) (ho : T1.get r = some (.tuple vs)) (hs : setAll xs.reverse vs.reverse loc = some loc') : St c (.asgW xs e) d loc T (.nxt loc') T1 := by
 rintro _ env A s ρ δ Q E ⟨l, k, tp, us, a1, b1, p, rfl, me, sw⟩ a ct
 rw [arm_exec_Assign]
 refine wpAny_bind (wpAny_standAt ?_)
 refine wpAny_bind (wpAny_of_eq (a := false) rfl ?_)
 show wpAny _ _ (eval (.Tuple us a1 b1) env >>= fun v => swappedStores [.Tuple l k tp] (.Tuple us a1 b1) env >>= fun sw => assignStores env v sw _) _ _ _
 refine wpAny_bind (e1 _ env A s ρ δ _ E me a fun ρ1 δ1 h' t1 va g1 hr1 vr1 => ?_)
 refine wpAny_bind (wpAny_of_eq (swapped_eq a.fr.kind sw) ?_)
 rw [vr1.2]
 show wpAny _ _ (rule "assign.swapped-stores" >>= fun _ => unpackItems (.ref (ρ1 r)) (xs.map nmS).length none >>= fun items => assignInOrder ((xs.map nmS).reverse.map fun n => bindName env n) items.reverse >>= fun _ => pure Flow.next) _ _ _
 have len : (xs.map nmS).length = vs.length := by
  have := setAll_len hs
  rw [List.length_reverse, List.length_reverse] at this
  rw [List.length_map, this]
 rw [len]
 have mine : ∀ x ∈ xs, mine? (env.kindOf (nmS x)) = true := by
  intro x hx
  have q := swapB_local sw (nmS x) (List.mem_map_of_mem hx)
  rw [q]; rfl
 refine wpAny_bind (wpAny_rule (wpAny_bind (items_snd (s := Sh s h' t1) hr1 a.ro (.inl ho) fun h2 vals k2 vr2 => wpAny_bind ?_)))
 refine names_snd (X := Own env) (s := { Sh s h' t1 with heap := h2 }) xs.reverse vs.reverse vals.reverse loc loc' _ hs (fun x hx => mine x (List.mem_reverse.mp hx)) ((a.fr.go g1).go (Go.of_keeps (X := No) k2)) (hr1.of_keeps k2) (VRs_reverse vr2) (fun h3 t3 g3 r3 f3 => wpAny_pure (ct ρ1 δ1 h3 t3 (g1.any.trans ((Go.of_keeps k2).trans g3)) r3 f3)) ?_ (fun _ _ => stx_own)
 rw [← List.map_reverse]
 exact binds_names xs.reverse
end
end Mine
end
section
open PySem PySem.W PyProof.Rows
namespace Mine
theorem fold_no {e : PySem.Expr} {env : Env} (h : notSet e = true) (x : Value) : foldedSetIterable e env x = pure x := by cases e <;> first | rfl | cases h
inductive IK where | list | tuple | dict (len ep : Nat) | range (lo : Int) (len : Nat)
noncomputable def ItAt (h : Heap) (I a : Addr) : IK → Nat → Prop
 | .list, i => h.IsListIter I a i
 | .tuple, i => h.IsTupleIter I a i
 | .dict len ep, i => h.IsKeyIter I a i len ep
 | .range lo len, i => IsRangeIter h I (lo + (i : Int)) ((len : Int) - (i : Int)) 1
theorem VRs.at {n : Nat} {ρ : Nat → Addr} {a : List AV} {v : List Value} (h : VRs n ρ a v) {i : Nat} {x : AV} (e : a[i]? = some x) : ∃ y, v[i]? = some y ∧ VR n ρ x y := by
 induction a generalizing v i with
 | nil => simp at e
 | cons z a ih => cases v with
  | nil => exact h.elim
  | cons y v => cases i with
   | zero => cases e; exact ⟨y, rfl, h.1⟩
   | succ i => exact ih h.2 e
theorem KR.len {K : Type} {is : AV → K → Prop} {n : Nat} {ρ : Nat → Addr} {a : List (AV × AV)} {v : List (K × Value)} (h : KR n ρ is a v) : a.length = v.length := by
 induction a generalizing v with
 | nil => cases v with
  | nil => rfl
  | cons => exact h.elim
 | cons x a ih => cases v with
  | nil => exact h.elim
  | cons y v => exact congrArg (· + 1) (ih h.2.2)
theorem KR.at {K : Type} {is : AV → K → Prop} {n : Nat} {ρ : Nat → Addr} {a : List (AV × AV)} {v : List (K × Value)} (h : KR n ρ is a v) {i : Nat} {x : AV} (e : (a.map (·.1))[i]? = some x) : ∃ k y, v[i]? = some (k, y) ∧ is x k := by
 induction a generalizing v i with
 | nil => simp at e
 | cons z a ih => cases v with
  | nil => exact h.elim
  | cons y v => cases i with
   | zero => cases e; exact ⟨y.1, y.2, rfl, h.1⟩
   | succ i => exact ih h.2.2 e
theorem isS_of {x : AV} {k : Str} (h : isS x k) {key : Value} (q : Value.isStrOf k key = true) (n : Nat) (ρ : Nat → Addr) : VR n ρ x key := by
 cases x <;> first | exact h.elim | skip
 obtain ⟨t, rfl⟩ := Value.isStrOf_shape q
 cases h; exact ⟨t, rfl⟩
theorem isI_of {x : AV} {k : Int} (h : isI x k) {key : Value} (q : Value.isInt k key = true) (n : Nat) (ρ : Nat → Addr) : VR n ρ x key := by
 cases x <;> first | exact h.elim | skip
 obtain ⟨t, rfl⟩ := Value.isInt_shape q
 cases h; exact ⟨t, rfl⟩
noncomputable def Turn (T : Hp) (src i : Nat) (x : Option AV) : IK → Prop
 | .list => ∃ xs, T.get src = some (.list xs) ∧ xs[i]? = x
 | .tuple => ∃ xs, T.get src = some (.tuple xs) ∧ xs[i]? = x
 | .dict len ep => ∃ es, T.get src = some (.dict es ep) ∧ es.length = len ∧ (es.map (·.1))[i]? = x
 | .range lo len => (i < len ∧ x = some (.int (lo + i))) ∨ (len ≤ i ∧ x = none)
noncomputable def IkOf (T : Hp) (src : Nat) : IK → Prop
 | .list => ∃ xs, T.get src = some (.list xs)
 | .tuple => ∃ xs, T.get src = some (.tuple xs)
 | .dict len ep => ∃ es, T.get src = some (.dict es ep) ∧ es.length = len
 | .range lo len => ∃ hi, T.get src = some (.range lo hi) ∧ -1000000 < lo ∧ lo < 1000000 ∧ -1000000 < hi ∧ hi < 1000000 ∧ len = (hi - lo).toNat
section
variable {c : Cx} {T : Hp} {n d : Nat} {A : Around} {s : Shared} {ρ δ : Nat → Addr} {E : Value → Shared → Prop} {I : Addr} {src i : Nat} {ik : IK}
theorem next_item {x : AV} {Q : Option Value → Shared → Prop} (e : Turn T src i (some x) ik) (hr : HR c ρ δ T n s.heap) (it : ItAt s.heap I (ρ src) ik i)
  (nx : ∀ h' t' val, VR n ρ x val → Heap.SameBut I s.heap h' → ItAt h' I (ρ src) ik (i + 1) → Q (some val) (Sh s h' t')) : wpAny (model c.prog c.w) A (pyNext (.ref I)) Q E s := by
 cases ik with
 | list =>
  obtain ⟨xs, ho, e⟩ := e
  obtain ⟨vals, k, h1, h2⟩ := (hr.obj _ _ ho).2
  obtain ⟨y, q1, q2⟩ := h2.at e
  exact wpAny_pyNext_list_item it ⟨_, h1, rfl, k, rfl⟩ (by simpa using q1) fun h' z1 z2 => nx h' s.toks y q2 z2 z1
 | tuple =>
  obtain ⟨xs, ho, e⟩ := e
  obtain ⟨vals, k, h1, h2⟩ := (hr.obj _ _ ho).2
  obtain ⟨y, q1, q2⟩ := h2.at e
  exact wpAny_pyNext_tuple_item it ⟨_, h1, rfl, k, rfl⟩ (by simpa using q1) fun h' z1 z2 => nx h' s.toks y q2 z2 z1
 | dict len ep =>
  obtain ⟨es, ho, q2, e⟩ := e
  obtain ⟨_, ⟨kvs, h1, h2⟩ | ⟨kvs, h1, h2⟩⟩ := (hr.obj _ _ ho).2
  ·obtain ⟨k, y, z1, z2⟩ := h2.at e
   rw [h2.len] at q2; subst q2
   exact wpAny_pyNext_dict_item it h1 z1 fun key h' z3 z4 z5 => nx h' s.toks key (isS_of z2 z3 _ _) z5 z4
  ·obtain ⟨k, y, z1, z2⟩ := h2.at e
   rw [h2.len] at q2; subst q2
   exact wpAny_pyNext_dict_item it h1 z1 fun key h' z3 z4 z5 => nx h' s.toks key (isI_of z2 z3 _ _) z5 z4
 | range lo len =>
  rcases e with ⟨q, e⟩ | ⟨_, e⟩
  ·cases e
   refine wpAny_pyNext_range_item it (by omega) fun h' z1 z2 => nx h' _ _ ⟨_, rfl⟩ z2 ?_
   show IsRangeIter h' I (lo + ((i + 1 : Nat) : Int)) ((len : Int) - ((i + 1 : Nat) : Int)) 1
   rw [show lo + ((i + 1 : Nat) : Int) = lo + (i : Int) + 1 by omega, show (len : Int) - ((i + 1 : Nat) : Int) = (len : Int) - (i : Int) - 1 by omega]
   exact z1
  ·cases e
theorem next_end {Q : Option Value → Shared → Prop} (e : Turn T src i none ik) (hr : HR c ρ δ T n s.heap) (it : ItAt s.heap I (ρ src) ik i) (hh : A.handled = none)
  (nx : ∀ h', Heap.ExtBut I s.heap h' → Q none (Sh s h' s.toks)) : wpAny (model c.prog c.w) A (pyNext (.ref I)) Q E s := by
 cases ik with
 | list =>
  obtain ⟨xs, ho, e⟩ := e
  obtain ⟨vals, k, h1, h2⟩ := (hr.obj _ _ ho).2
  exact wpAny_pyNext_list_end hh it ⟨_, h1, rfl, k, rfl⟩ (by have := List.getElem?_eq_none_iff.mp e; rw [h2.len] at this; simpa using this) nx
 | tuple =>
  obtain ⟨xs, ho, e⟩ := e
  obtain ⟨vals, k, h1, h2⟩ := (hr.obj _ _ ho).2
  exact wpAny_pyNext_tuple_end hh it ⟨_, h1, rfl, k, rfl⟩ (by have := List.getElem?_eq_none_iff.mp e; rw [h2.len] at this; simpa using this) nx
 | dict len ep =>
  obtain ⟨es, ho, q2, e⟩ := e
  have e := List.getElem?_eq_none_iff.mp e
  rw [List.length_map] at e
  obtain ⟨_, ⟨kvs, h1, h2⟩ | ⟨kvs, h1, h2⟩⟩ := (hr.obj _ _ ho).2
  ·rw [h2.len] at q2 e; subst q2
   exact wpAny_pyNext_dict_end hh it h1 (List.getElem?_eq_none_iff.mpr e) nx
  ·rw [h2.len] at q2 e; subst q2
   exact wpAny_pyNext_dict_end hh it h1 (List.getElem?_eq_none_iff.mpr e) nx
 | range lo len =>
  rcases e with ⟨_, e⟩ | ⟨q, _⟩
  ·cases e
  ·exact wpAny_pyNext_range_end hh it (by omega) nx
theorem iter_snd {Q : Value → Shared → Prop} (e : IkOf T src ik) (hr : HR c ρ δ T n s.heap)
  (nx : ∀ o, o.isFreed = false → ItAt (s.heap.push o) s.heap.objs.size (ρ src) ik 0 → Q (.ref s.heap.objs.size) { s with heap := s.heap.push o }) : wpAny (model c.prog c.w) A (pyIter (.ref (ρ src))) Q E s := by
 cases ik with
 | list =>
  obtain ⟨xs, ho⟩ := e
  obtain ⟨vals, k, h1, h2⟩ := (hr.obj _ _ ho).2
  exact wpAny_pyIter_list ⟨_, h1, rfl, k, rfl⟩ (nx _ rfl ⟨_, Heap.get?_push_size _ rfl, rfl, rfl⟩)
 | tuple =>
  obtain ⟨xs, ho⟩ := e
  obtain ⟨vals, k, h1, h2⟩ := (hr.obj _ _ ho).2
  exact wpAny_pyIter_tuple ⟨_, h1, rfl, k, rfl⟩ (nx _ rfl ⟨_, Heap.get?_push_size _ rfl, rfl, rfl⟩)
 | dict len ep =>
  obtain ⟨es, ho, ql⟩ := e
  obtain ⟨hd, ⟨kvs, h1, h2⟩ | ⟨kvs, h1, h2⟩⟩ := (hr.obj _ _ ho).2
  ·refine wpAny_pyIter_dict hd h1 (nx _ rfl ⟨_, Heap.get?_push_size _ rfl, rfl, ?_⟩)
   rw [← ql, h2.len]; rfl
  ·refine wpAny_pyIter_dict hd h1 (nx _ rfl ⟨_, Heap.get?_push_size _ rfl, rfl, ?_⟩)
   rw [← ql, h2.len]; rfl
 | range lo len =>
  obtain ⟨hi, ho, q1, q2, q3, q4, ql⟩ := e
  obtain ⟨t1, t2, t3, h1⟩ := (hr.obj _ _ ho).2
  subst ql
  have sz : Builtin.Range.rangeSize lo hi 1 = (((hi - lo).toNat : Nat) : Int) := by
   unfold Builtin.Range.rangeSize
   rw [if_pos (by decide)]
   split <;> omega
  have b1 : (((hi - lo).toNat : Nat) : Int) ≤ 2000000 := by omega
  have b0 : (0 : Int) ≤ (((hi - lo).toNat : Nat) : Int) := Int.natCast_nonneg _
  refine wpAny_pyIter_range h1 ?_ (nx _ rfl ?_)
  ·unfold Builtin.Range.small Builtin.Range.rangeFitsLong
   rw [sz]
   generalize (((hi - lo).toNat : Nat) : Int) = z at b0 b1
   clear sz
   simp only [Bool.and_eq_true, Bool.or_eq_true, decide_eq_true_eq, beq_iff_eq]
   refine ⟨⟨⟨⟨⟨?_, ?_⟩, ?_, ?_⟩, ?_, ?_⟩, ?_, ?_⟩, .inr ?_⟩ <;> (try rw [if_pos (by decide)]) <;> (try simp only [Bool.and_eq_true, decide_eq_true_eq]) <;> omega
  ·show IsRangeIter _ _ (lo + ((0 : Nat) : Int)) ((((hi - lo).toNat : Nat) : Int) - ((0 : Nat) : Int)) 1
   rw [show lo + ((0 : Nat) : Int) = lo from Int.add_zero _, show (((hi - lo).toNat : Nat) : Int) - ((0 : Nat) : Int) = (((hi - lo).toNat : Nat) : Int) from Int.sub_zero _, ← sz]
   exact Heap.get?_push_size _ rfl
end
section
variable {prog : Program} {w : World} {A : Around} {s : Shared}
theorem for_step {R : Result → Shared → Prop} {target : PySem.Expr} {it : Value} {body : List Stmt} {env : Env}
  (h : wpAny (model prog w) A (pyNext it) (fun r s₁ => match r with
   | none => R (.ok .next) s₁
   | some v => wpAny (model prog w) A (letOwnedTupleGo target it v) (fun _ s₁' =>
     wpAny (model prog w) A (assign target env v) (fun _ s₂ => wpAny (model prog w) A (execs body env) (fun f s₃ => match f with
      | .next | .cont => codeAny (model prog w) A (.forLoop target it body [] env) R s₃
      | .brk => R (.ok .next) s₃
      | .ret v => R (.ok (.ret v)) s₃) (notedBy (model prog w) A env fun e s' => R (.error e) s') s₂) (notedBy (model prog w) A env fun e s' => R (.error e) s') s₁') (notedBy (model prog w) A env fun e s' => R (.error e) s') s₁) (notedBy (model prog w) A env fun e s' => R (.error e) s') s) :
  codeAny (model prog w) A (.forLoop target it body [] env) R s := by
 refine codeAny_of_tree ?_
 show wpAny _ A ((forTurn target it body [] env).onRaise (fun x => do noteFrame x env; theTreesLotGoes x)) _ _ s
 refine wpAny_noted ?_
 simp only [forTurn]
 refine wpAny_bind (wpAny_standAt (wpAny_bind (wpAny_onRaise (wpAny_mono h (fun r s₁ h₁ => ?_) fun _ _ h' => wpAny_standAt h'))))
 cases r with
 | none => exact wpAny_pure ⟨rfl, codeAny_block (wpAny_pure h₁)⟩
 | some v =>
  refine wpAny_bind (wpAny_mono h₁ (fun _ s₁' h₁' => ?_) fun _ _ h' => h')
  refine wpAny_bind (wpAny_mono h₁' (fun _ s₂ h₂ => wpAny_bind (wpAny_mono h₂ (fun f s₃ h₃ => ?_) fun _ _ h' => h')) fun _ _ h' => h')
  cases f with
  | next => exact wpAny_pure ⟨rfl, h₃⟩
  | cont => exact wpAny_pure ⟨rfl, h₃⟩
  | brk => exact wpAny_pure h₃
  | ret v => exact wpAny_pure h₃
theorem own_tuple {E : Value → Shared → Prop} {tg : PySem.Expr} {I : Addr} {v : Value} {Q : Unit → Shared → Prop} {o : Obj} {T : String} {vs : Array Value} (ho : s.heap.get? I = some o) (hc : o.cls = .type T) (hd : o.data = .fields vs)
  (hT : ["enumerate", "zip", "dict_itemiterator", "dict_reverseitemiterator", "odict_iterator", "itertools.zip_longest", "itertools.pairwise"].contains T = false) (h : Q () s) : wpAny (model prog w) A (letOwnedTupleGo tg (.ref I) v) Q E s := by
 have key : wpAny (model prog w) A (load I >>= fun o => match o.cls, o.data with
   | .type n, .fields vs => (match v with | .ref a => if ["enumerate", "zip", "dict_itemiterator", "dict_reverseitemiterator", "odict_iterator", "itertools.zip_longest", "itertools.pairwise"].contains n && vs[0]? == some (rawInt a) then (do rule "for.unpacks-the-owned-tuple"; updateField I 0 .none) else pure () | _ => pure ())
   | _, _ => pure ()) Q E s := by
  refine wpAny_bind (wpAny_load ho ?_)
  rw [hc, hd]
  dsimp only
  cases v <;> first
   | exact wpAny_pure h
   | (dsimp only; rw [if_neg (by rw [hT]; exact Bool.false_ne_true)]; exact wpAny_pure h)
 unfold letOwnedTupleGo
 cases tg <;> first | exact wpAny_pure h | (cases v <;> first | exact wpAny_pure h | exact key)
end
theorem ItAt.own {prog : Program} {w : World} {A : Around} {s : Shared} {E : Value → Shared → Prop} {tg : PySem.Expr} {I a : Addr} {ik : IK} {i : Nat} {v : Value} {Q : Unit → Shared → Prop} (it : ItAt s.heap I a ik i) (h : Q () s) : wpAny (model prog w) A (letOwnedTupleGo tg (.ref I) v) Q E s := by
 cases ik with
 | list => obtain ⟨o, h1, h2, h3⟩ := it; exact own_tuple h1 h2 h3 (by decide) h
 | tuple => obtain ⟨o, h1, h2, h3⟩ := it; exact own_tuple h1 h2 h3 (by decide) h
 | dict => obtain ⟨o, h1, h2, h3⟩ := it; exact own_tuple h1 h2 h3 (by decide) h
 | range => exact own_tuple it rfl rfl (by decide) h
theorem ItAt.obj {h : Heap} {I a : Addr} {ik : IK} {i : Nat} (it : ItAt h I a ik i) : ∃ o, h.get? I = some o ∧ (∀ es k, o.data ≠ .dict es k) ∧ ∀ h' : Heap, h'.get? I = some o → ItAt h' I a ik i := by
 cases ik with
 | list => obtain ⟨o, h1, h2, h3⟩ := it; exact ⟨o, h1, (fun _ _ q => by rw [h3] at q; cases q), fun _ e => ⟨o, e, h2, h3⟩⟩
 | tuple => obtain ⟨o, h1, h2, h3⟩ := it; exact ⟨o, h1, (fun _ _ q => by rw [h3] at q; cases q), fun _ e => ⟨o, e, h2, h3⟩⟩
 | dict => obtain ⟨o, h1, h2, h3⟩ := it; exact ⟨o, h1, (fun _ _ q => by rw [h3] at q; cases q), fun _ e => ⟨o, e, h2, h3⟩⟩
 | range => exact ⟨_, it, (fun _ _ q => by cases q), fun _ e => e⟩
theorem ItAt.go {c : Cx} {X : Addr → Prop} {ρ δ ρ' δ' : Nat → Addr} {n n' : Nat} {h h' : Heap} {I a : Addr} {ik : IK} {i : Nat} (it : ItAt h I a ik i) (g : Go c X ρ δ n h ρ' δ' n' h') (off : Off c ρ δ n I) (nx : ¬ X I) : ItAt h' I a ik i := by
 obtain ⟨o, h1, nd, k⟩ := it.obj
 exact k h' (g.exact h1 off nx nd)
theorem ItAt.live {h : Heap} {I a : Addr} {ik : IK} {i : Nat} (it : ItAt h I a ik i) : Live h I := by
 obtain ⟨o, h1, _⟩ := it.obj
 exact ⟨o, h1⟩
theorem FR.of_ext {c : Cx} {ρ δ : Nat → Addr} {n : Nat} {h h' : Heap} {loc : Loc} {env : Env} {a : Addr} (f : FR c ρ δ n loc env h) (k : Heap.ExtBut a h h') (ne : ¬ Own env a) : FR c ρ δ n loc env h' := by
 have kc : ∀ {x b}, env.cells.lookup x = some b → b ≠ a := fun {x b} e z => ne (.inr ⟨x, z ▸ e⟩)
 refine ⟨f.kind, f.glo, f.bui, f.offL, f.hbL, fun x b e => ?_, f.hbC, f.inj, ?_, fun x v e q => ?_, fun x q => ?_⟩
 ·obtain ⟨z1, z2, o, z3⟩ := f.offC x b e
  exact ⟨z1, z2, o, k b o (kc e) z3⟩
 ·obtain ⟨m, ⟨o, es, ep, ho, r⟩, hv⟩ := f.ns
  exact ⟨m, ⟨o, es, ep, k _ o (fun z => ne (.inl z.symm)) ho, r⟩, hv⟩
 ·obtain ⟨b, val, z1, ⟨o, z2, z3⟩, z4⟩ := f.cel x v e q
  exact ⟨b, val, z1, ⟨o, k b o (kc z1) z2, z3⟩, z4⟩
 ·obtain ⟨b, v, z1, ⟨o, z2, z3⟩⟩ := f.celE x q
  exact ⟨b, v, z1, ⟨o, k b o (kc z1) z2, z3⟩⟩
theorem Go.iter {c : Cx} {X : Addr → Prop} {ρ0 δ0 ρ δ : Nat → Addr} {n0 n : Nat} {h0 h h' : Heap} {I : Addr} (g : Go c X ρ0 δ0 n0 h0 ρ δ n h) (k : Heap.ExtBut I h h') (d : h0.get? I = none) : Go c X ρ0 δ0 n0 h0 ρ δ n h' :=
 ⟨g.le, g.same, g.fresh, fun b o e x y => let ⟨sl, q, r⟩ := g.keep b o e x y; ⟨sl, k b _ (dead_ne ⟨o, e⟩ d) q, r⟩, fun b z => let ⟨o, e⟩ := g.live b z; ⟨o, k b o (dead_ne z d) e⟩⟩
noncomputable def Lo (c : Cx) (xs : List Nat) (src : Nat) (ik : IK) (i : Nat) (b : PSs) (d : Nat) (loc : Loc) (T : Hp) (f : Fl) (T' : Hp) : Prop :=
 ∀ (tg : PySem.Expr) (body : List Stmt) (env : Env) (A : Around) (s : Shared) (h1 : Heap) (t1 : Nat) (ρ0 δ0 ρ δ : Nat → Addr) (T0 : Hp) (I : Addr) (R : Result → Shared → Prop), MT env.kindOf xs tg → MSs b env.kindOf body → At c d loc T env A (Sh s h1 t1) ρ δ →
  Off c ρ δ T.n I → c.hb.get? I = none → ¬ Own env I → src < T.n → ItAt h1 I (ρ src) ik i → s.heap.get? I = none → Go c (Own env) ρ0 δ0 T0.n s.heap ρ δ T.n h1 →
  Kf c env s ρ0 δ0 T0 T' f (fun f s' => R (.ok f) s') → codeAny (model c.prog c.w) A (.forLoop tg (.ref I) body [] env) R (Sh s h1 t1)
section
variable {c : Cx} {xs : List Nat} {src i d : Nat} {ik : IK} {b : PSs} {loc loc1 loc2 : Loc} {T T1 T2 : Hp} {f : Fl} {v x : AV} {it : PE}
theorem L_end (e : Turn T src i none ik) : Lo c xs src ik i b d loc T (.nxt loc) T := by
 intro tg body env A s h1 t1 ρ0 δ0 ρ δ T0 I R mt mb a off hbI nOwn hs it dead g ct
 refine for_step (next_end (s := Sh s h1 t1) e a.hr it a.ro.2.2 fun h2 eb => ?_)
 exact ct ρ δ h2 t1 (g.iter eb dead) (a.hr.of_ext eb off hbI) (a.fr.of_ext eb nOwn)
theorem lo_turn {g : Fl} {tg : PySem.Expr} {body : List Stmt} {env : Env} {A : Around} {s : Shared} {h1 : Heap} {t1 : Nat} {ρ0 δ0 ρ δ : Nat → Addr} {n0 : Nat} {I : Addr} {R : Result → Shared → Prop} (e : Turn T src i (some x) ik) (eb : BindTo T xs x loc loc1) (eX : Ex c b d loc1 T g T1) (mt : MT env.kindOf xs tg) (mb : MSs b env.kindOf body) (a : At c d loc T env A (Sh s h1 t1) ρ δ)
  (off : Off c ρ δ T.n I) (hbI : c.hb.get? I = none) (nOwn : ¬ Own env I) (it : ItAt h1 I (ρ src) ik i) (dead : s.heap.get? I = none) (gg : Go c (Own env) ρ0 δ0 n0 s.heap ρ δ T.n h1)
  (k : ∀ h3 t3, ItAt h3 I (ρ src) ik (i + 1) → Go c (Own env) ρ0 δ0 n0 s.heap ρ δ T.n h3 → Kf c env (Sh s h3 t3) ρ δ T T1 g (fun f s₃ => match f with | .next | .cont => codeAny (model c.prog c.w) A (.forLoop tg (.ref I) body [] env) R s₃ | .brk => R (.ok .next) s₃ | .ret v => R (.ok (.ret v)) s₃)) :
  codeAny (model c.prog c.w) A (.forLoop tg (.ref I) body [] env) R (Sh s h1 t1) := by
 refine for_step (next_item (s := Sh s h1 t1) e a.hr it fun h2 t2 val vr sb it2 => ?_)
 have hr2 : HR c ρ δ T T.n h2 := a.hr.of_ext sb.extBut off hbI
 have fr2 : FR c ρ δ T.n loc env h2 := a.fr.of_ext sb.extBut nOwn
 refine ItAt.own (s := Sh s h2 t2) it2 ?_
 refine bind_snd (X := Own env) (s := Sh s h2 t2) eb mt fr2 hr2 a.ro vr fun h3 t3 g3 hr3 fr3 => ?_
 exact eX body env A (Sh s h3 t3) ρ δ _ _ mb ⟨fr3, hr3, a.ro⟩ (k h3 t3 (it2.go g3 off nOwn) ((gg.iter sb.extBut dead).trans g3))
theorem L_next (e : Turn T src i (some x) ik) (eb : BindTo T xs x loc loc1) (eX : Ex c b d loc1 T (.nxt loc2) T1) (e2 : Lo c xs src ik (i + 1) b d loc2 T1 f T2) : Lo c xs src ik i b d loc T f T2 := by
 intro tg body env A s h1 t1 ρ0 δ0 ρ δ T0 I R mt mb a off hbI nOwn hs it dead g ct
 refine lo_turn e eb eX mt mb a off hbI nOwn it dead g fun h3 t3 it3 g3 ρ' δ' h4 t4 g4 hr4 fr4 => ?_
 refine e2 tg body env A s h4 t4 ρ0 δ0 ρ' δ' T0 I R mt mb ⟨fr4, hr4, a.ro⟩ (g4.off off it3.live) hbI nOwn (Nat.lt_of_lt_of_le hs g4.le) ?_ dead (g3.trans g4) ct
 rw [(g4.same src hs).1]
 exact it3.go g4 off nOwn
theorem L_ret (e : Turn T src i (some x) ik) (eb : BindTo T xs x loc loc1) (eX : Ex c b d loc1 T (.ret v) T1) : Lo c xs src ik i b d loc T (.ret v) T1 := by
 intro tg body env A s h1 t1 ρ0 δ0 ρ δ T0 I R mt mb a off hbI nOwn hs it dead g ct
 exact lo_turn e eb eX mt mb a off hbI nOwn it dead g fun h3 t3 it3 g3 ρ' δ' h4 t4 val g4 hr4 vr4 => ct ρ' δ' h4 t4 val (g3.trans g4) hr4 vr4
theorem R_for {r : Nat} (e1 : Ev c it d loc T (.ref r) T1) (hk : IkOf T1 r ik) (e2 : Lo c xs r ik 0 b d loc T1 f T2) : St c (.for1 xs it b) d loc T f T2 := by
 rintro _ env A s ρ δ Q E ⟨tg, it', body, p, rfl, mt, me, ns, mb⟩ a ct
 refine wpAny_For (e1 _ env A s ρ δ _ E me a fun ρ1 δ1 h' t1 va g1 hr1 vr1 => ?_) (fun x => fold_no ns x)
 rw [vr1.2]
 have fr1 := a.fr.go g1
 refine iter_snd (s := Sh s h' t1) hk hr1 fun ob hf ia => ?_
 have dead : h'.get? h'.objs.size = none := dead_end _ (Nat.le_refl _)
 have kp : ∀ b o, h'.get? b = some o → (h'.push ob).get? b = some o := fun b o e => Heap.get?_push_of_some _ e
 have nOwn : ¬ Own env h'.objs.size := by
  rintro (z | ⟨x, z⟩)
  ·obtain ⟨m, q, _⟩ := fr1.ns
   exact dead_ne (live_ns q) dead z.symm
  ·exact dead_ne (fr1.offC x _ z).2.2 dead rfl
 exact e2 tg body env A (Sh s h' t1) (h'.push ob) t1 ρ1 δ1 ρ1 δ1 T1 h'.objs.size _ mt mb ⟨fr1.go (Go.of_keeps (X := No) kp), hr1.of_keeps kp, a.ro⟩ (hr1.offNew (s := Sh s h' t1) dead) (hr1.dead (s := Sh s h' t1) dead) nOwn vr1.1 ia dead (Go.of_keeps kp) (Kf.go ct g1.any)
end
end Mine
end
section
open PySem PySem.W PyProof.Rows
namespace Mine
theorem szl {n : Nat} (h : n < 4000) : n ≤ sizeLine := by unfold sizeLine; omega
noncomputable def keq : AV → AV → Bool
 | .str a, .str b => decide (a = b)
 | .int a, .int b => decide (a = b)
 | _, _ => false
noncomputable def dlk (k : AV) : List (AV × AV) → Option AV
 | [] => none
 | e :: r => if keq e.1 k = true then some e.2 else dlk k r
noncomputable def dpt (k v : AV) : List (AV × AV) → List (AV × AV)
 | [] => [(k, v)]
 | e :: r => if keq e.1 k = true then (e.1, v) :: r else e :: dpt k v r
noncomputable def ddl (k : AV) : List (AV × AV) → List (AV × AV)
 | [] => []
 | e :: r => if keq e.1 k = true then r else e :: ddl k r
noncomputable def kOk : AV → List (AV × AV) → Bool
 | .str _, [] => true
 | .int _, [] => true
 | .str _, (.str _, _) :: _ => true
 | .int _, (.int _, _) :: _ => true
 | _, _ => false
noncomputable def epS (k : AV) (es : List (AV × AV)) (ep : Nat) : Nat := match dlk k es with | some _ => ep | none => ep + 1
structure KK {K : Type} (is : AV → K → Prop) : Prop where
 eq : ∀ {x k : AV} {a b : K}, is x a → is k b → (keq x k = true ↔ a = b)
theorem kkS : KK isS := ⟨fun {x k a b} h1 h2 => by
 cases x <;> first | exact h1.elim | skip
 cases k <;> first | exact h2.elim | skip
 cases h1; cases h2
 show decide _ = true ↔ _
 rw [decide_eq_true_eq]
 exact ⟨fun h => by rw [h], fun h => S_inj h⟩⟩
theorem kkI : KK isI := ⟨fun {x k a b} h1 h2 => by
 cases x <;> first | exact h1.elim | skip
 cases k <;> first | exact h2.elim | skip
 cases h1; cases h2
 show decide _ = true ↔ _
 rw [decide_eq_true_eq]⟩
section
variable {K : Type} [DecidableEq K] {is : AV → K → Prop} (kk : KK is) {n : Nat} {ρ : Nat → Addr} {k v : AV} {b : K} {val : Value} (hk : is k b)
include kk hk
theorem KR.look {es : List (AV × AV)} {kvs : List (K × Value)} (h : KR n ρ is es kvs) : (∀ y, dlk k es = some y → ∃ u, valueAt kvs b = some u ∧ VR n ρ y u) ∧ (dlk k es = none → valueAt kvs b = none) := by
 induction es generalizing kvs with
 | nil => cases kvs with
  | nil => exact ⟨fun y h => (by cases h), fun _ => rfl⟩
  | cons => exact h.elim
 | cons x es ih => cases kvs with
  | nil => exact h.elim
  | cons y kvs =>
   obtain ⟨i1, i2⟩ := ih h.2.2
   have e := kk.eq h.1 hk
   unfold dlk
   by_cases q : y.1 = b
   ·rw [if_pos (e.mpr q)]
    refine ⟨fun w hw => ?_, fun hw => by cases hw⟩
    cases hw
    exact ⟨y.2, by simp [valueAt, q], h.2.1⟩
   ·rw [if_neg fun z => q (e.mp z)]
    have : valueAt (y :: kvs) b = valueAt kvs b := by simp [valueAt, q]
    rw [this]
    exact ⟨i1, i2⟩
theorem KR.put (hv : VR n ρ v val) {es : List (AV × AV)} {kvs : List (K × Value)} (h : KR n ρ is es kvs) (nd : (kvs.map (·.1)).Nodup) : KR n ρ is (dpt k v es) (stored kvs b val) := by
 induction es generalizing kvs with
 | nil => cases kvs with
  | nil => exact ⟨hk, hv, trivial⟩
  | cons => exact h.elim
 | cons x es ih => cases kvs with
  | nil => exact h.elim
  | cons y kvs =>
   obtain ⟨a, u⟩ := y
   rw [List.map_cons, List.nodup_cons] at nd
   have e := kk.eq h.1 hk
   unfold dpt
   by_cases q : a = b
   ·subst q
    rw [if_pos (e.mpr rfl)]
    have : stored ((a, u) :: kvs) a val = (a, val) :: kvs := by
     unfold stored
     rw [if_pos (by simp), List.map_cons, if_pos rfl, map_store_of_not_mem kvs _ val nd.1]
    rw [this]
    exact ⟨h.1, hv, h.2.2⟩
   ·rw [if_neg fun z => q (e.mp z)]
    have : stored ((a, u) :: kvs) b val = (a, u) :: stored kvs b val := by
     unfold stored
     simp only [List.any_cons, decide_eq_false q, Bool.false_or, List.map_cons, if_neg q]
     split <;> rfl
    rw [this]
    exact ⟨h.1, h.2.1, ih h.2.2 nd.2⟩
theorem KR.del {es : List (AV × AV)} {kvs : List (K × Value)} (h : KR n ρ is es kvs) (nd : (kvs.map (·.1)).Nodup) : KR n ρ is (ddl k es) (without kvs b) := by
 induction es generalizing kvs with
 | nil => cases kvs with
  | nil => trivial
  | cons => exact h.elim
 | cons x es ih => cases kvs with
  | nil => exact h.elim
  | cons y kvs =>
   obtain ⟨a, u⟩ := y
   rw [List.map_cons, List.nodup_cons] at nd
   have e := kk.eq h.1 hk
   unfold ddl
   by_cases q : a = b
   ·subst q
    rw [if_pos (e.mpr rfl)]
    have : without ((a, u) :: kvs) a = kvs := by
     have := without_of_not_mem kvs a nd.1
     unfold without at this ⊢
     rw [List.filter_cons, if_neg (by simp)]
     exact this
    rw [this]
    exact h.2.2
   ·rw [if_neg fun z => q (e.mp z)]
    have : without ((a, u) :: kvs) b = (a, u) :: without kvs b := by
     unfold without
     rw [List.filter_cons, if_pos (by simp [q])]
    rw [this]
    exact ⟨h.1, h.2.1, ih h.2.2 nd.2⟩
end
section
variable {prog : Program} {w : World} {A : Around} {E : Value → Shared → Prop} {s : Shared} {K : Type} [DecidableEq K] {knd : KeyKind prog w K}
theorem dictSet_at {d : Addr} {kvs : List (K × Value)} {ep : Nat} {k : K} {key v : Value} {Q : Unit → Shared → Prop} (hkey : knd.is k key = true) (hm : s.heap.DictAt knd d kvs ep) (hsz : kvs.length ≤ sizeLine)
  (hQ : ∀ h', h'.DictAt knd d (stored kvs k v) (match valueAt kvs k with | some _ => ep | none => ep + 1) → Heap.SameBut d s.heap h' → Q () { s with heap := h', toks := s.toks + 1 }) :
  wpAny (model prog w) A (dictSet d key v) Q E s := by
 obtain ⟨o, es, ho, hc, hd, hk, hp, hn⟩ := hm
 have hes : es.size ≤ sizeLine := by
  have e1 := hp.length
  have e2 : es.toList.length = es.size := by simp
  omega
 have hva : (es.toList.find? fun e => knd.is k e.key).map (·.val) = valueAt kvs k := hp.find k
 unfold dictSet
 try with_reducible refine wpAny_holding ?_
 refine wpAny_bind (knd.pyHash hkey ?_)
 unfold dictSetHashed
 try with_reducible refine wpAny_holding ?_
 refine wpAny_bind (wpAny_dictFind_of (s := { s with toks := s.toks + 1 }) hkey ho hd hk ?_)
 have hidx : (es.findIdx? fun e => knd.is k e.key) = kvs.findIdx? fun kv => decide (kv.1 = k) := by
  rw [← hp.findIdx k]; obtain ⟨l⟩ := es; simp
 cases hi : es.findIdx? fun e => knd.is k e.key with
 | some i =>
  have hl : (es.toList.findIdx? fun e => knd.is k e.key) = some i := by rw [← hi]; obtain ⟨l⟩ := es; simp
  have hv : ∃ u, valueAt kvs k = some u := by
   obtain ⟨e, _, _, q⟩ := hp.at hl
   exact ⟨_, q⟩
  obtain ⟨u, hu⟩ := hv
  rw [hu] at hQ
  refine wpAny_bind (wpAny_rule (wpAny_bind (wpAny_updateDict (s := { s with toks := s.toks + 1 }) ho hd (wpAny_point (hQ _ ⟨_, _, Heap.get?_update_self _ ho (Obj.isFreed_of_dict (Obj.data_mapDict hd _)),
   hc.mapDict _, Obj.data_mapDict hd _, hk.modify _ _, ?_, ?_⟩ (Heap.SameBut.update ..))))))
  ·rw [stored, if_pos (any_of_findIdx_some (hidx ▸ hi))]
   have := hp.modify hn hl v
   obtain ⟨l⟩ := es
   simpa using this
  ·rw [stored, if_pos (any_of_findIdx_some (hidx ▸ hi)), keys_map_store]; exact hn
 | none =>
  have hnot : k ∉ kvs.map (·.1) := not_mem_of_findIdx_none (hidx ▸ hi)
  have hany : ¬ (kvs.any fun kv => decide (kv.1 = k)) = true := by
   rw [List.any_eq_true]; rintro ⟨kv, hkv, he⟩
   exact hnot (List.mem_map.mpr ⟨kv, hkv, of_decide_eq_true he⟩)
  have hv : valueAt kvs k = none := by
   unfold valueAt
   rw [Option.map_eq_none_iff, List.find?_eq_none]
   intro kv hkv he
   exact hnot (List.mem_map.mpr ⟨kv, hkv, of_decide_eq_true he⟩)
  rw [hv] at hQ
  refine wpAny_bind (wpAny_rule (wpAny_updateDictKeys (hz := hes) (s := { s with toks := s.toks + 1 }) ho hd (hQ _ ⟨_, _, Heap.get?_update_self _ ho (Obj.isFreed_of_dict (Obj.data_mapDictKeys hd _)),
   hc.mapDictKeys _, Obj.data_mapDictKeys hd _, hk.push hkey _, ?_, ?_⟩ (Heap.SameBut.update ..))))
  ·rw [stored, if_neg hany]
   have := hp.append hkey (knd.hash k) v
   obtain ⟨l⟩ := es
   simpa using this
  ·rw [stored, if_neg hany, List.map_append, List.nodup_append]
   refine ⟨hn, by simp, ?_⟩
   intro a ha b hb
   simp only [List.map_cons, List.map_nil, List.mem_singleton] at hb
   subst hb
   exact fun e => hnot (e ▸ ha)
theorem setItem_at {d : Addr} {kvs : List (K × Value)} {ep : Nat} {k : K} {key v : Value} {Q : Unit → Shared → Prop} (hkey : knd.is k key = true) (hm : s.heap.DictAt knd d kvs ep) (hsz : kvs.length ≤ sizeLine)
  (hQ : ∀ h', h'.DictAt knd d (stored kvs k v) (match valueAt kvs k with | some _ => ep | none => ep + 1) → Heap.SameBut d s.heap h' → Q () { s with heap := h', toks := s.toks + 1 }) :
  wpAny (model prog w) A (setItem (.ref d) key v) Q E s := by
 have hT := hm.dictOf.typeIs (s := s)
 unfold setItem
 try with_reducible refine wpAny_holding ?_
 refine wpAny_bind (wpAny_sequenceKey hT (by decide) ?_)
 refine wpAny_bind (wpAny_callSpecial?_slot (name := Str.ofString "__setitem__") hT slot_dict_setitem
  (wpAny_call_entry slot_dict_setitem hT entry_dict_setitem ?_ (args_dict_setitem _ _ _)))
 show wpAny _ _ (Builtin.Dict.notOrdered "__setitem__" ⟨[.ref d, key, v], []⟩ >>= _) _ _ s
 refine wpAny_bind (wpAny_notOrdered_dict hT ?_)
 show wpAny _ _ (dictSet d key v >>= _) _ _ s
 exact wpAny_bind (dictSet_at hkey hm hsz fun h' hm' hs' => wpAny_pure ⟨.none, rfl, wpAny_pure (hQ h' hm' hs')⟩)
theorem DictAt.empty {K' : Type} [DecidableEq K'] {knd' : KeyKind prog w K'} {h : Heap} {a : Addr} {ep : Nat} (x : h.DictAt knd a [] ep) : h.DictAt knd' a [] ep := by
 obtain ⟨o, es, ho, hc, hd, hk, hp, hn⟩ := x
 have : es.toList = [] := by cases q : es.toList with
  | nil => rfl
  | cons e l => rw [q] at hp; cases hp
 have : es = #[] := by cases es; simp at this; subst this; rfl
 subst this
 exact ⟨o, #[], ho, hc, hd, fun _ he => by simp at he, Pairs.nil, List.nodup_nil⟩
end
section
variable {c : Cx} {ρ δ : Nat → Addr} {n : Nat} {h h' : Heap} {T : Hp} {ao : AO}
theorem DR.key {P : Prop} {a : Addr} {es : List (AV × AV)} {ep : Nat} {k : AV} {key : Value} (x : DR c n ρ h a es ep) (ok : kOk k es = true) (vk : VR n ρ k key)
  (f : ∀ {K : Type} [DecidableEq K] {knd : KeyKind c.prog c.w K} {is : AV → K → Prop} (kk : KK is) {kvs : List (K × Value)} {b : K}, h.DictAt knd a kvs ep → KR n ρ is es kvs → is k b → knd.is b key = true →
   (∀ {es' kvs' h' ρ' n' ep'}, Heap.DictAt knd h' a kvs' ep' → KR n' ρ' is es' kvs' → DR c n' ρ' h' a es' ep') → P) : P := by
 obtain ⟨x0, x⟩ := x
 cases k <;> first
  | exact Bool.noConfusion (show false = true from ok)
  | skip
 ·rename_i i
  obtain ⟨t, rfl⟩ := vk
  rcases x with ⟨kvs, h1, h2⟩ | ⟨kvs, h1, h2⟩
  ·have : es = [] := by
    cases es with
    | nil => rfl
    | cons e l =>
     obtain ⟨y, v⟩ := e
     cases kvs with
     | nil => exact h2.elim
     | cons q r =>
      have := h2.1
      cases y <;> first | exact this.elim | exact Bool.noConfusion (show false = true from ok)
   subst this
   cases kvs with
   | cons => exact h2.elim
   | nil => exact f (knd := intKind c.prog c.w) kkI (b := i) (DictAt.empty h1) (show KR n ρ isI [] [] from trivial) rfl (by simp [intKind, Value.isInt]) fun z1 z2 => ⟨x0, .inr ⟨_, z1, z2⟩⟩
  ·exact f (knd := intKind c.prog c.w) kkI (b := i) h1 h2 rfl (by simp [intKind, Value.isInt]) fun z1 z2 => ⟨x0, .inr ⟨_, z1, z2⟩⟩
 ·rename_i i
  obtain ⟨t, rfl⟩ := vk
  rcases x with ⟨kvs, h1, h2⟩ | ⟨kvs, h1, h2⟩
  ·exact f (knd := strKind c.prog c.w) kkS (b := S i) h1 h2 rfl (by simp [PySem.strKind, Value.isStrOf]) fun z1 z2 => ⟨x0, .inl ⟨_, z1, z2⟩⟩
  ·have : es = [] := by
    cases es with
    | nil => rfl
    | cons e l =>
     obtain ⟨y, v⟩ := e
     cases kvs with
     | nil => exact h2.elim
     | cons q r =>
      have := h2.1
      cases y <;> first | exact this.elim | exact Bool.noConfusion (show false = true from ok)
   subst this
   cases kvs with
   | cons => exact h2.elim
   | nil => exact f (knd := strKind c.prog c.w) kkS (b := S i) (DictAt.empty h1) (show KR n ρ isS [] [] from trivial) rfl (by simp [PySem.strKind, Value.isStrOf]) fun z1 z2 => ⟨x0, .inl ⟨_, z1, z2⟩⟩
theorem HR.turn1 {X : Addr → Prop} {r : Nat} (hr : HR c ρ δ T T.n h) (ro : 1 ≤ r) (lt : r < T.n) (sb : Heap.ExtBut (ρ r) h h') (lr : Live h' (ρ r)) (or : OR c T.n ρ h' (ρ r) (δ r) ao) :
  HR c ρ δ (hput T r ao) T.n h' ∧ Go c X ρ δ T.n h ρ δ T.n h' := by
 refine hr.turn ro lt (fun j => get_hput T ao r j lt) (fun b o q _ z => sb b o q z) lr ?_ or
 by_cases q : δ r = ρ r
 ·rw [q]; exact lr
 ·obtain ⟨o, z⟩ := (hr.liv r lt).2; exact ⟨o, sb _ o q z⟩
theorem DR.live {a : Addr} {es : List (AV × AV)} {ep : Nat} (x : DR c n ρ h a es ep) : Live h a := by
 obtain ⟨_, ⟨_, ⟨o, _, q, _⟩, _⟩ | ⟨_, ⟨o, _, q, _⟩, _⟩⟩ := x <;> exact ⟨o, q⟩
theorem DR.set {A : Around} {s : Shared} {E : Value → Shared → Prop} {a : Addr} {es : List (AV × AV)} {ep : Nat} {k v : AV} {key val : Value} {Q : Unit → Shared → Prop} (x : DR c n ρ s.heap a es ep) (q1 : kOk k es = true) (q2 : es.length < 4000) (vk : VR n ρ k key) (vv : VR n ρ v val)
  (nx : ∀ h' t', DR c n ρ h' a (dpt k v es) (epS k es ep) → Heap.SameBut a s.heap h' → Q () (Sh s h' t')) : wpAny (model c.prog c.w) A (setItem (.ref a) key val) Q E s ∧ wpAny (model c.prog c.w) A (dictSet a key val) Q E s := by
 refine DR.key x q1 vk fun {K _ knd is} kk {kvs b} hd hk hb hkey back => ?_
 have fin : ∀ h', h'.DictAt knd a (stored kvs b val) (match valueAt kvs b with | some _ => ep | none => ep + 1) → Heap.SameBut a s.heap h' → Q () { s with heap := h', toks := s.toks + 1 } := fun h' z1 z2 => by
  refine nx h' _ (back ?_ (KR.put kk hb vv hk hd.nodup)) z2
  have L := KR.look kk hb hk
  unfold epS
  cases q : dlk k es with
  | none => rw [L.2 q] at z1; exact z1
  | some y => obtain ⟨u, z3, _⟩ := L.1 y q; rw [z3] at z1; exact z1
 rw [hk.len] at q2
 have q3 : kvs.length ≤ sizeLine := szl q2
 exact ⟨setItem_at hkey hd q3 fin, dictSet_at hkey hd q3 fin⟩
end
section
variable {prog : Program} {w : World} {A : Around} {s : Shared} {env : Env} {Q E : Value → Shared → Prop}
theorem wp_Subscript {value slice : PySem.Expr} {pos : Pos} (hs : ∀ b o i, subscripted slice b o i = (match b with | true => runValue (.builtin "lifetime.subscript" ⟨[o, i], []⟩) | false => operate [o, i] (getItem o i)))
  (h : wpAny (model prog w) A (eval value env) (fun o s₁ => wpAny (model prog w) A (eval slice env) (fun i s₂ => ∃ T id, typeLookup (.type T) "__getitem__" = pure (some (.builtin id)) ∧ s₂.TypeIs o T ∧ wpAny (model prog w) A (getItem o i) Q E s₂) E s₁) E s) :
  wpAny (model prog w) A (eval (.Subscript value slice pos) env) Q E s := by
 rw [eval_Subscript]
 refine wpAny_bind (wpAny_mono h (fun o s₁ h₁ => wpAny_bind (wpAny_holding (wpAny_mono h₁ (fun i s₂ h₂ => wpAny_bind (wpAny_standAt ?_)) fun _ _ x => x))) fun _ _ x => x)
 obtain ⟨T, id, hl, hT, hg⟩ := h₂
 refine wpAny_bind ?_
 rw [getitemInPython_of_ne hT.not_modules]
 refine wpAny_bind (wpAny_specialOf hT hl ?_)
 have fin : wpAny (model prog w) A (subscripted slice false o i >>= fun r => letTemporaryGo value o r >>= fun _ => pure r) Q E s₂ := by
  rw [hs]
  exact wpAny_bind (wpAny_operating (wpAny_mono hg (fun r s₃ h₃ => wpAny_bind (wpAny_letTemporaryGo (wpAny_pure h₃))) fun _ _ x => x))
 first
  | exact wpAny_pure fin
  | exact fin
end
noncomputable def It (c : Cx) (o i : AV) (T : Hp) (v : AV) : Prop :=
 ∀ (A : Around) (s : Shared) (ρ δ : Nat → Addr) (vo vi : Value) (Q E : Value → Shared → Prop), HR c ρ δ T T.n s.heap → VR T.n ρ o vo → VR T.n ρ i vi → (∀ val t', VR T.n ρ v val → Q val (Sh s s.heap t')) →
  ∃ Ty id, typeLookup (.type Ty) "__getitem__" = pure (some (.builtin id)) ∧ s.TypeIs vo Ty ∧ wpAny (model c.prog c.w) A (getItem vo vi) Q E s
section
variable {c : Cx} {d : Nat} {loc : Loc} {T T1 T2 T3 : Hp} {v a b k : AV} {e o i : PE} {r j ep : Nat} {xs : List AV} {es : List (AV × AV)}
theorem I_list (ho : T.get r = some (.list xs)) (hj : xs[j]? = some v) (lt : j < 1000000) : It c (.ref r) (.int (j : Int)) T v := by
 intro A s ρ δ vo vi Q E hr ro ri h
 obtain ⟨vs, kk, h1, h2⟩ := (hr.obj _ _ ho).2
 obtain ⟨t, rfl⟩ := ri
 obtain ⟨y, q1, q2⟩ := h2.at hj
 have hl : s.heap.IsList (ρ r) vs.toArray := ⟨_, h1, rfl, kk, rfl⟩
 rw [ro.2]
 exact ⟨"list", _, slot_list_getitem.lookup, hl.typeIs, wpAny_getItem_list hl (by omega) (by omega) (by rw [Int.toNat_natCast]; simpa using q1) (h y s.toks q2)⟩
theorem I_last (ho : T.get r = some (.list xs)) (hj : xs.getLast? = some v) : It c (.ref r) (.int (-1)) T v := by
 intro A s ρ δ vo vi Q E hr ro ri h
 obtain ⟨vs, kk, h1, h2⟩ := (hr.obj _ _ ho).2
 obtain ⟨t, rfl⟩ := ri
 rw [List.getLast?_eq_getElem?] at hj
 have hp : xs.length - 1 < xs.length := (List.getElem?_eq_some_iff.mp hj).1
 obtain ⟨y, q1, q2⟩ := h2.at hj
 have hl : s.heap.IsList (ρ r) vs.toArray := ⟨_, h1, rfl, kk, rfl⟩
 have e : xs.length = vs.length := h2.len
 rw [ro.2]
 refine ⟨"list", _, slot_list_getitem.lookup, hl.typeIs, wpAny_getItem_list_neg hl (by decide) (by simp; omega) (by decide) ?_ (h y s.toks q2)⟩
 rw [List.size_toArray, ← e, show (-1 + (xs.length : Int)).toNat = xs.length - 1 by omega]
 simpa using q1
theorem I_tuple (ho : T.get r = some (.tuple xs)) (hj : xs[j]? = some v) (lt : j < 1000000) : It c (.ref r) (.int (j : Int)) T v := by
 intro A s ρ δ vo vi Q E hr ro ri h
 obtain ⟨vs, kk, h1, h2⟩ := (hr.obj _ _ ho).2
 obtain ⟨t, rfl⟩ := ri
 obtain ⟨y, q1, q2⟩ := h2.at hj
 have hl : j < vs.length := by rw [← h2.len]; exact (List.getElem?_eq_some_iff.mp hj).1
 have ht : s.heap.IsTuple (ρ r) vs.toArray := ⟨_, h1, rfl, kk, rfl⟩
 rw [ro.2]
 refine ⟨"tuple", _, F.slot_tuple_getitem.lookup, ht.typeIs, PyProof.Rows.getItem_tuple (ht : PyProof.Rows.IsTup s.heap (ρ r) vs.toArray) (by omega) (by omega) (j := j) ?_ (by simpa using q1) (h y s.toks q2)⟩
 unfold seqIndex?
 simp only [show ¬ ((j : Int) < 0) by omega, if_false]
 rw [if_pos (by simp only [Bool.and_eq_true, decide_eq_true_eq, List.size_toArray]; omega)]
 simp
theorem I_dict (ho : T.get r = some (.dict es ep)) (hk : kOk k es = true) (hl : dlk k es = some v) : It c (.ref r) k T v := by
 intro A s ρ δ vo vi Q E hr ro ri h
 rw [ro.2]
 refine DR.key (hr.obj _ _ ho).2 hk ri fun {K _ knd is} kk {kvs b} hd hk hb hkey back => ?_
 obtain ⟨u, q1, q2⟩ := (KR.look kk hb hk).1 v hl
 exact ⟨"dict", _, slot_dict_getitem.lookup, hd.dictOf.typeIs, wpAny_getItem_of hkey hd.dictOf.mapOf q1 (h u _ q2)⟩
theorem R_sub (e1 : Ev c o d loc T a T1) (e2 : Ev c i d loc T1 b T2) (hi : It c a b T2 v) : Ev c (.sub o i) d loc T v T2 := by
 rintro _ env A s ρ δ Q E ⟨o', i', p, rfl, mo, mi, nsl⟩ at' ct
 refine wp_Subscript (by intro b o i; cases i' <;> cases b <;> first | rfl | cases nsl) (e1 _ env A s ρ δ _ E mo at' fun ρ1 δ1 h1 t1 va g1 hr1 vr1 => ?_)
 refine e2 _ env A (Sh s h1 t1) ρ1 δ1 _ E mi (at'.go g1 hr1) fun ρ2 δ2 h2 t2 vb g2 hr2 vr2 => ?_
 exact hi A (Sh s h2 t2) ρ2 δ2 va vb Q E hr2 (g2.vr vr1) vr2 fun val t' vr => ct ρ2 δ2 h2 t' val (g1.trans g2) hr2 vr
theorem R_asgS (e1 : Ev c e d loc T v T1) (e2 : Ev c o d loc T1 (.ref r) T2) (e3 : Ev c i d loc T2 k T3) (ho : T3.get r = some (.dict es ep)) (hk : kOk k es = true) (hl : es.length < 4000) (hro : 1 ≤ r) : St c (.asgS o i e) d loc T (.nxt loc) (hput T3 r (.dict (dpt k v es) (epS k es ep))) := by
 rintro _ env A s ρ δ Q E ⟨o', i', sp, e', p, rfl, mo, mi, me, nc⟩ a ct
 refine wpAny_Assign_Subscript (e1 _ env A s ρ δ _ E me a fun ρ1 δ1 h1 t1 va g1 hr1 vr1 => ?_) (swaps_no nc)
 have a1 := At.go (t' := t1) a g1 hr1
 refine e2 _ env A (Sh s h1 t1) ρ1 δ1 _ E mo a1 fun ρ2 δ2 h2 t2 vo g2 hr2 vr2 => ?_
 have a2 := At.go (t' := t2) a1 g2 hr2
 refine e3 _ env A (Sh s h2 t2) ρ2 δ2 _ E mi a2 fun ρ3 δ3 h3 t3 vi g3 hr3 vr3 => ?_
 obtain ⟨lt, q⟩ := g3.vr (a := .ref r) vr2
 rw [q]
 refine (DR.set (s := Sh s h3 t3) (hr3.obj _ _ ho).2 hk hl vr3 (g3.vr (g2.vr vr1)) fun h4 t4 x' sb => ?_).1
 obtain ⟨hr4, g4⟩ := hr3.turn1 (ao := .dict (dpt k v es) (epS k es ep)) (X := No) hro lt sb.extBut x'.live x'
 exact ct ρ3 δ3 h4 t4 (g1.trans (g2.trans (g3.trans g4))).any hr4 ((a2.fr.go g3).go g4)
end
end Mine
end
section
open PySem PySem.W PyProof.Rows
namespace Mine
noncomputable def fil : List (AV × AV) → List (AV × AV) → Nat → AO
 | [], es, ep => .dict es ep
 | p :: r, es, ep => fil r (dpt p.1 p.2 es) (epS p.1 es ep)
noncomputable def filOk : List (AV × AV) → List (AV × AV) → Bool
 | [], _ => true
 | p :: r, es => kOk p.1 es && Nat.blt es.length 4000 && filOk r (dpt p.1 p.2 es)
noncomputable def PR (n : Nat) (ρ : Nat → Addr) : List (AV × AV) → List (Value × Value) → Prop
 | [], [] => True
 | p :: r, q :: l => VR n ρ p.1 q.1 ∧ VR n ρ p.2 q.2 ∧ PR n ρ r l
 | _, _ => False
noncomputable def Pv (c : Cx) (l : PEs) (d : Nat) (loc : Loc) (T : Hp) (ps : List (AV × AV)) (T' : Hp) : Prop :=
 ∀ (ks : List (Option PySem.Expr)) (xs : List PySem.Expr) (env : Env) (A : Around) (s : Shared) (ρ δ : Nat → Addr) (Q : List (Value × Value) → Shared → Prop) (E : Value → Shared → Prop) (pos : Pos), MPs l env.kindOf ks xs → At c d loc T env A s ρ δ →
  (∀ ρ' δ' h' t' vals, Go c No ρ δ T.n s.heap ρ' δ' T'.n h' → HR c ρ' δ' T' T'.n h' → PR T'.n ρ' ps vals → Q vals (Sh s h' t')) → wpAny (model c.prog c.w) A (evalPairs (pairTrees ks xs env pos)) Q E s
theorem fill_snd {c : Cx} {n : Nat} {ρ : Nat → Addr} {A : Around} {E : Value → Shared → Prop} {a : Addr} {Q : PUnit → Shared → Prop} (vs : List (AV × AV)) : ∀ {ps : List (Value × Value)} {s : Shared} {es : List (AV × AV)} {ep : Nat}, filOk vs es = true → PR n ρ vs ps → DR c n ρ s.heap a es ep →
  (∀ h' t' es' ep', fil vs es ep = .dict es' ep' → DR c n ρ h' a es' ep' → Heap.SameBut a s.heap h' → Q PUnit.unit (Sh s h' t')) → wpAny (model c.prog c.w) A (storeAll a ps) Q E s := by
 induction vs with
 | nil =>
  intro ps s es ep e pr x nx
  cases ps with
  | cons => exact pr.elim
  | nil => exact wpAny_pure (nx s.heap s.toks es ep rfl x (Heap.SameBut.refl ..))
 | cons p r ih =>
  intro ps s es ep e pr x nx
  cases ps with
  | nil => exact pr.elim
  | cons q l =>
   unfold filOk at e
   obtain ⟨e1, e2⟩ := (Bool.and_eq_true _ _).mp e
   obtain ⟨e3, e4⟩ := (Bool.and_eq_true _ _).mp e1
   unfold storeAll
   rw [List.forIn_cons]
   refine wpAny_bind (wpAny_bind (DR.set x e3 (Nat.le_of_ble_eq_true e4) pr.1 pr.2.1 fun h' t' x' sb => ?_).2)
   exact wpAny_pure (ih (s := Sh s h' t') e2 pr.2.2 x' fun h'' t'' es'' ep'' eo' x'' sb' => nx h'' t'' es'' ep'' eo' x'' (sb.trans sb'))
section
variable {c : Cx} {d : Nat} {loc : Loc} {T T1 T2 T3 : Hp} {a b k v : AV} {x y o i : PE} {l : PEs} {ps : List (AV × AV)} {r ep : Nat} {es : List (AV × AV)}
theorem P_nil : Pv c .nil d loc T [] T := by
 rintro _ _ env A s ρ δ Q E pos ⟨rfl, rfl⟩ at' ct
 exact pairTrees_nil_walk (ct ρ δ s.heap s.toks [] Go.refl at'.hr trivial)
theorem P_cons (e1 : Ev c x d loc T a T1) (e2 : Ev c y d loc T1 b T2) (e3 : Pv c l d loc T2 ps T3) : Pv c (.cons x (.cons y l)) d loc T ((a, b) :: ps) T3 := by
 rintro _ _ env A s ρ δ Q E pos ⟨k', v', ks', vs', rfl, rfl, mk, mv, ms⟩ at' ct
 refine pairTrees_cons_walk (e1 _ env A s ρ δ _ E mk at' fun ρ1 δ1 h1 t1 va g1 hr1 vr1 => ?_)
 have a1 := At.go (t' := t1) at' g1 hr1
 refine e2 _ env A (Sh s h1 t1) ρ1 δ1 _ E mv a1 fun ρ2 δ2 h2 t2 vb g2 hr2 vr2 => ?_
 refine e3 _ _ env A (Sh s h2 t2) ρ2 δ2 _ E pos ms (At.go (s := Sh s h1 t1) (t' := t2) a1 g2 hr2) fun ρ3 δ3 h3 t3 vals g3 hr3 pr => ?_
 exact ct ρ3 δ3 h3 t3 ((va, vb) :: vals) (g1.trans (g2.trans g3)) hr3 ⟨g3.vr (g2.vr vr1), g3.vr vr2, pr⟩
theorem MPs.size {kd : Kd} (ps : List (AV × AV)) : ∀ {l : PEs} {ks : List (Option PySem.Expr)} {xs : List PySem.Expr}, MPs l kd ks xs → lenE l = 2 * ps.length → ks.all (·.isSome) = true ∧ ks.length = xs.length ∧ ks.length = ps.length := by
 induction ps with
 | nil =>
  intro l ks xs h e
  cases l with
  | nil => obtain ⟨rfl, rfl⟩ := h; exact ⟨rfl, rfl, rfl⟩
  | cons => cases e
 | cons p ps ih =>
  intro l ks xs h e
  cases l with
  | nil => cases e
  | cons a l => cases l with
   | nil => exact h.elim
   | cons b l =>
    obtain ⟨k', v', ks', vs', rfl, rfl, _, _, m⟩ := h
    have : lenE l = 2 * ps.length := by
     have : lenE l + 1 + 1 = 2 * (ps.length + 1) := e
     omega
    obtain ⟨q1, q2, q3⟩ := ih m this
    exact ⟨by rw [List.all_cons, q1]; rfl, congrArg (· + 1) q2, congrArg (· + 1) q3⟩
variable (ok : Ok c)
include ok
theorem new_dict {ρ δ : Nat → Addr} {s : Shared} (hr : HR c ρ δ T T.n s.heap) : DR c (T.n + 1) (ext ρ T.n s.heap.objs.size) (s.heap.push { cls := .type "dict", data := .dict #[] }) s.heap.objs.size [] 0 := by
 refine ⟨beq_false_of_ne fun z => ?_, .inl ⟨[], ⟨_, #[], Heap.get?_push_size _ rfl, ⟨rfl, rfl, rfl⟩, rfl, fun _ he => by simp at he, Pairs.nil, List.nodup_nil⟩, trivial⟩⟩
 obtain ⟨ob, q⟩ := ok.sysm
 have := hr.base _ _ q
 rw [← z, dead_end s.heap (Nat.le_refl _)] at this
 cases this
theorem R_dict0 : Ev c (.dict .nil) d loc T (.ref T.n) (hnew T (.dict [] 0)) := by
 rintro _ env A s ρ δ Q E ⟨_, _, p, rfl, ⟨rfl, rfl⟩, _⟩ at' ct
 exact wpAny_Dict_empty (Kv.push (ob := { cls := .type "dict", data := .dict #[] }) (t := s.toks) ct at'.hr rfl (new_dict ok at'.hr))
theorem R_dict (e1 : Pv c l d loc (hnew T (.dict [] 0)) ps T1) (ho : T1.get T.n = some (.dict [] 0)) (z : Nat.ble 1 T.n = true) (len : lenE l = 2 * ps.length) (ne : ps ≠ []) (fo : filOk ps [] = true) : Ev c (.dict l) d loc T (.ref T.n) (hput T1 T.n (fil ps [] 0)) := by
 rintro _ env A s ρ δ Q E ⟨ks, xs, p, rfl, mp, le⟩ at' ct
 obtain ⟨z1, z2, z3⟩ := MPs.size ps mp len
 obtain ⟨hr1, g1⟩ := at'.hr.push (X := No) (T' := hnew T (.dict [] 0)) (o := { cls := .type "dict", data := .dict #[] }) (get_hnew T _) rfl (new_dict ok at'.hr)
 refine wpAny_Dict_any z1 z2 (fun q => ne (List.length_eq_zero_iff.mp (by rw [← z3, q]; rfl))) (by rw [len, ← z3] at le; omega) ?_
 refine e1 ks xs env A (Sh s _ s.toks) _ _ _ E _ mp ⟨at'.fr.go g1, hr1, at'.ro⟩ fun ρ2 δ2 h2 t2 vals g2 hr2 pr => ?_
 have lt : T.n < T1.n := g2.le
 have ea : ρ2 T.n = s.heap.objs.size := by rw [(g2.same T.n (Nat.lt_succ_self T.n)).1, ext_at]
 rw [← ea]
 refine fill_snd ps (s := Sh s h2 t2) fo pr (hr2.obj _ _ ho).2 fun h4 t4 es' ep' eo' x' sb => ?_
 obtain ⟨hr4, g4⟩ := hr2.turn1 (ao := .dict es' ep') (X := No) (Nat.le_of_ble_eq_true z) lt sb.extBut x'.live x'
 rw [eo'] at ct
 exact ct ρ2 δ2 h4 t4 _ (Go.trans g1 (g2.trans g4)) hr4 ⟨lt, rfl⟩
omit ok
section
variable {prog : Program} {w : World} {A : Around} {E : Value → Shared → Prop} {s : Shared} {K : Type} [DecidableEq K] {knd : KeyKind prog w K}
theorem takeOut_at {d : Addr} {kvs : List (K × Value)} {ep : Nat} {k : K} {key u : Value} {Q : Option DictEntry → Shared → Prop} (hkey : knd.is k key = true) (hm : s.heap.DictAt knd d kvs ep) (hsz : kvs.length ≤ sizeLine) (hv : valueAt kvs k = some u)
  (hQ : ∀ e h', h'.DictAt knd d (without kvs k) (ep + 1) → Heap.SameBut d s.heap h' → Q (some e) { s with heap := h', toks := s.toks + 1 }) :
  wpAny (model prog w) A (Builtin.Dict.takeOut d key) Q E s := by
 obtain ⟨o, es, ho, hc, hd, hk, hp, hn⟩ := hm
 have hes : es.size ≤ sizeLine := by rw [← Array.length_toList, hp.length]; exact hsz
 unfold Builtin.Dict.takeOut
 try with_reducible refine wpAny_holding ?_
 refine wpAny_bind (knd.pyHash hkey ?_)
 refine wpAny_bind (wpAny_dictFind_of (s := { s with toks := s.toks + 1 }) hkey ho hd hk ?_)
 cases hi : es.findIdx? fun e => knd.is k e.key with
 | none =>
  exfalso
  have : (es.toList.find? fun e => knd.is k e.key) = none := by
   rw [List.find?_eq_none]
   intro e he
   have := Array.findIdx?_eq_none_iff.mp hi e (Array.mem_toList_iff.mp he)
   simpa using this
  have z := hp.find k
  rw [this, hv] at z
  cases z
 | some i =>
  have hl : (es.toList.findIdx? fun e => knd.is k e.key) = some i := by rw [← hi]; obtain ⟨l⟩ := es; simp
  obtain ⟨e, he, hek, hev⟩ := hp.at hl
  refine wpAny_bind (wpAny_dictEntries (s := { s with toks := s.toks + 1 }) ho hd ?_)
  have he' : es[i]? = some e := by rw [← he]; obtain ⟨l⟩ := es; simp
  rw [he']
  refine wpAny_bind (wpAny_updateDictKeys (hz := hes) (s := { s with toks := s.toks + 1 }) ho hd (wpAny_pure (hQ e _ ⟨_, _, Heap.get?_update_self _ ho (Obj.isFreed_of_dict (Obj.data_mapDictKeys hd _)),
   hc.mapDictKeys _, Obj.data_mapDictKeys hd _, hk.erase _, ?_, nodup_without hn k⟩ (Heap.SameBut.update ..))))
  have := hp.erase hn hl
  obtain ⟨l⟩ := es
  simpa using this
theorem delItem_at {d : Addr} {kvs : List (K × Value)} {ep : Nat} {k : K} {key u : Value} {Q : Unit → Shared → Prop} (hkey : knd.is k key = true) (hm : s.heap.DictAt knd d kvs ep) (hsz : kvs.length ≤ sizeLine) (hv : valueAt kvs k = some u)
  (hQ : ∀ h', h'.DictAt knd d (without kvs k) (ep + 1) → Heap.SameBut d s.heap h' → Q () { s with heap := h', toks := s.toks + 1 }) :
  wpAny (model prog w) A (delItem (.ref d) key) Q E s := by
 have hT := hm.dictOf.typeIs (s := s)
 unfold delItem
 try with_reducible refine wpAny_holding ?_
 refine wpAny_bind (wpAny_sequenceKey hT (by decide) ?_)
 refine wpAny_bind (wpAny_callSpecial?_slot (name := Str.ofString "__delitem__") hT PySem.F.slot_dict_delitem
  (wpAny_call_entry PySem.F.slot_dict_delitem hT PySem.F.entry_dict_delitem ?_ (PySem.F.args_dict_delitem_2 _ _)))
 unfold Builtin.«dict.__delitem__»
 refine wpAny_bind ?_
 unfold Builtin.Dict.dictSlotArgs
 refine wpAny_bind (wpAny_notOrdered_dict hT ?_)
 show wpAny _ _ (pure (Value.ref d, key)) _ _ s
 refine wpAny_pure ?_
 show wpAny _ _ (Builtin.Dict.takeOut d key >>= _) _ _ s
 exact wpAny_bind (takeOut_at hkey hm hsz hv fun e h' hm' hs' => wpAny_bind (wpAny_letGo (wpAny_pure ⟨.none, rfl, wpAny_pure (hQ h' hm' hs')⟩)))
end
theorem R_delS (e2 : Ev c o d loc T (.ref r) T1) (e3 : Ev c i d loc T1 k T2) (ho : T2.get r = some (.dict es ep)) (hk : kOk k es = true) (hl : es.length < 4000) (hv : dlk k es = some v) (hro : 1 ≤ r) : St c (.delS o i) d loc T (.nxt loc) (hput T2 r (.dict (ddl k es) (ep + 1))) := by
 rintro _ env A s ρ δ Q E ⟨o', i', sp, p, rfl, mo, mi⟩ a ct
 refine wpAny_Delete (wpAny_deleteEach_cons (PyProof.Rows.delete_Subscript (e2 _ env A s ρ δ _ E mo a fun ρ2 δ2 h2 t2 vo g2 hr2 vr2 => ?_)))
 have a2 := At.go (t' := t2) a g2 hr2
 refine e3 _ env A (Sh s h2 t2) ρ2 δ2 _ E mi a2 fun ρ3 δ3 h3 t3 vi g3 hr3 vr3 => ?_
 obtain ⟨lt, q⟩ := g3.vr (a := .ref r) vr2
 rw [q]
 refine DR.key (hr3.obj _ _ ho).2 hk vr3 fun {K _ knd is} kk {kvs b} hd hk hb hkey back => ?_
 obtain ⟨u, hu, _⟩ := (KR.look kk hb hk).1 v hv
 rw [hk.len] at hl
 refine delItem_at (s := Sh s h3 t3) hkey hd (szl hl) hu fun h4 hd4 sb => wpAny_deleteEach_nil ?_
 have x' := back hd4 (KR.del kk hb hk hd.nodup)
 obtain ⟨hr4, g4⟩ := hr3.turn1 (ao := .dict (ddl k es) (ep + 1)) (X := No) hro lt sb.extBut x'.live x'
 exact ct ρ3 δ3 h4 _ (g2.trans (g3.trans g4)).any hr4 ((a2.fr.go g3).go g4)
end
end Mine
end
section
open PySem PySem.W PyProof.Rows
namespace Mine
noncomputable def closG (cells : List (Str × Addr)) (c : List (Str × Addr)) (p : Str × NameKind) : List (Str × Addr) := if p.2 == .free then (p.1, (cells.lookup p.1).getD 0) :: c else c
theorem clos_eq {scope : Scope} {env : Env} (h : ∀ p ∈ scope.names, p.2 = .free → ∃ a, env.cells.lookup p.1 = some a) : closureFor scope env = pure (scope.names.foldl (closG env.cells) []) := by
 have fold : ∀ {f : Str × NameKind → List (Str × Addr) → Sem (ForInStep (List (Str × Addr)))} (l : List (Str × NameKind)), (∀ x ∈ l, ∀ b, f x b = pure (.yield (closG env.cells b x))) → ∀ b, forIn l b f = pure (l.foldl (closG env.cells) b) := by
  intro f l
  induction l with
  | nil => exact fun _ b => rfl
  | cons x l ih =>
   intro h b
   rw [List.forIn_cons, h x (.head _) b]
   exact ih (fun y hy => h y (.tail _ hy)) _
 simp only [closureFor]
 rw [fold scope.names (fun x hx b => by
  obtain ⟨n, k⟩ := x
  unfold closG
  dsimp only
  by_cases q : k = .free
  ·subst q
   obtain ⟨a, e⟩ := h _ hx rfl
   simp only [beq_self_eq_true, if_true]
   unfold cellOf
   rw [e]
   rfl
  ·have : (k == NameKind.free) = false := by simpa using q
   simp only [this, Bool.false_eq_true, if_false])]
 rfl
theorem clos_some {cells : List (Str × Addr)} {x : Str} {a : Addr} (l : List (Str × NameKind)) : ∀ (acc : List (Str × Addr)), (∀ p ∈ l, p.2 = .free → ∃ a, cells.lookup p.1 = some a) → (acc.lookup x = some a → cells.lookup x = some a) → (l.foldl (closG cells) acc).lookup x = some a → cells.lookup x = some a := by
 induction l with
 | nil => exact fun acc _ h e => h e
 | cons p l ih =>
  intro acc hf h e
  refine ih _ (fun p hp => hf p (.tail _ hp)) (fun z => ?_) e
  unfold closG at z
  by_cases q : (p.2 == NameKind.free) = true
  ·rw [if_pos q, List.lookup_cons] at z
   by_cases hx : x = p.1
   ·rw [hx, beq_self_eq_true] at z
    cases z
    obtain ⟨b, hb⟩ := hf _ (.head _) (eq_of_beq q)
    rw [hx, hb]; rfl
   ·rw [beq_false_of_ne hx] at z; exact h z
  ·rw [if_neg q] at z; exact h z
theorem clos_free {cells : List (Str × Addr)} {x : Str} {a : Addr} (hx : cells.lookup x = some a) (l : List (Str × NameKind)) : ∀ (acc : List (Str × Addr)), (x, NameKind.free) ∈ l ∨ acc.lookup x = some a → (l.foldl (closG cells) acc).lookup x = some a := by
 induction l with
 | nil => exact fun acc h => h.elim (fun h => by cases h) id
 | cons p l ih =>
  intro acc h
  refine ih _ ?_
  unfold closG
  by_cases q : (p.2 == NameKind.free) = true
  ·rw [if_pos q]
   by_cases e : x = p.1
   ·right; rw [← e, List.lookup_cons, beq_self_eq_true, hx]; rfl
   ·rcases h with h | h
    ·cases h with
     | head => exact absurd rfl e
     | tail _ h => exact .inl h
    ·right; rw [List.lookup_cons, beq_false_of_ne e]; exact h
  ·rw [if_neg q]
   rcases h with h | h
   ·cases h with
    | head => exact absurd rfl q
    | tail _ h => exact .inl h
   ·exact .inr h
theorem kdC_env {env : Env} {scope : Scope} {C : Addr} {cl : List (Str × Addr)} (hk : env.scope.kind = .function) : (compEnvC scope cl C env).kindOf = kdC env.kindOf scope := by
 funext x
 show (relabel scope env).names.lookup x = _
 unfold relabel kdC
 congr 1
 refine List.map_congr_left fun p _ => ?_
 obtain ⟨n, k⟩ := p
 dsimp only
 rw [hk]
 simp
noncomputable def hasN (xs : List Nat) (x : Nat) : Bool := @List.rec _ (fun _ => Bool) false (fun y _ r => cond (Nat.beq y x) true r) xs
noncomputable def rm (xs : List Nat) (l : Loc) : Loc := @List.rec _ (fun _ => Loc) [] (fun p _ r => cond (hasN xs p.1) r (p :: r)) l
theorem hasN_iff {xs : List Nat} {x : Nat} : hasN xs x = true ↔ x ∈ xs := by
 induction xs with
 | nil => exact ⟨fun h => (by cases h), fun h => (by cases h)⟩
 | cons y l ih =>
  show cond (Nat.beq y x) true (hasN l x) = true ↔ _
  by_cases e : y = x
  ·subst e; rw [Nat.beq_refl]; exact ⟨fun _ => .head _, fun _ => rfl⟩
  ·rw [beq_no e]
   exact ⟨fun h => .tail _ (ih.mp h), fun h => ih.mpr (by cases h with | head => exact absurd rfl e | tail _ h => exact h)⟩
theorem lk_rm {xs : List Nat} {x : Nat} {v : AV} {l : Loc} (e : lk (rm xs l) x = some v) : lk l x = some v ∧ x ∉ xs := by
 induction l with
 | nil => cases e
 | cons p l ih =>
  obtain ⟨k, w⟩ := p
  have e : lk (cond (hasN xs k) (rm xs l) ((k, w) :: rm xs l)) x = some v := e
  rw [lk_cons]
  cases q : hasN xs k with
  | true =>
   rw [q] at e
   rw [if_neg fun z : k = x => (ih e).2 (z ▸ hasN_iff.mp q)]
   exact ih e
  | false =>
   rw [q] at e
   have e : lk ((k, w) :: rm xs l) x = some v := e
   rw [lk_cons] at e
   by_cases z : k = x
   ·rw [if_pos z] at e ⊢
    exact ⟨e, fun h => by rw [hasN_iff.mpr (z ▸ h)] at q; cases q⟩
   ·rw [if_neg z] at e ⊢
    exact ih e
theorem kdC_some {kd : Kd} {x : Str} {k : NameKind} (l : List (Str × NameKind)) (e : (l.map fun p => if (p.2 == NameKind.free && kd p.1 == some .cell) then (p.1, NameKind.cell) else p).lookup x = some k) :
  ∃ k0, (x, k0) ∈ l ∧ ((k0 = .free ∧ kd x = some .cell ∧ k = .cell) ∨ (k = k0 ∧ ¬ (k0 = .free ∧ kd x = some .cell))) := by
 induction l with
 | nil => cases e
 | cons p l ih =>
  obtain ⟨n, k0⟩ := p
  rw [List.map_cons] at e
  by_cases hx : x = n
  ·subst hx
   by_cases q : (k0 == NameKind.free && kd x == some .cell) = true
   ·rw [if_pos q, List.lookup_cons, beq_self_eq_true] at e
    cases e
    rw [Bool.and_eq_true] at q
    exact ⟨k0, .head _, .inl ⟨eq_of_beq q.1, eq_of_beq q.2, rfl⟩⟩
   ·rw [if_neg q, List.lookup_cons, beq_self_eq_true] at e
    cases e
    refine ⟨_, .head _, .inr ⟨rfl, fun z => q ?_⟩⟩
    rw [z.1, z.2]; rfl
  ·have this : (x == n) = false := beq_false_of_ne hx
   rw [List.lookup_cons] at e
   rw [show (x == (if (k0 == NameKind.free && kd n == some .cell) = true then (n, NameKind.cell) else (n, k0)).1) = false by split <;> exact this] at e
   obtain ⟨k1, h1, h2⟩ := ih e
   exact ⟨k1, .tail _ h1, h2⟩
structure CompFacts (kd : Kd) (scope : Scope) (xs : List Nat) : Prop where
 kind : scope.kind = .function
 nocell : ∀ p ∈ scope.names, p.2 ≠ .cell
 free : ∀ p ∈ scope.names, p.2 = .free → kd p.1 = some .cell ∧ ∃ x, nmS x = p.1
 loc : ∀ p ∈ scope.names, p.2 = .local → scope.names.lookup p.1 = some .local
 few : ∀ p ∈ scope.names, p.2 = .local → (∃ x ∈ xs, nmS x = p.1) ∨ p.1 = (".0" : Str)
 tgt : ∀ x ∈ xs, scope.names.lookup (nmS x) = some .local
theorem compOk_of {kd : Kd} {scope : Scope} {xs : List Nat} (h : compOk kd scope xs = true) : CompFacts kd scope xs := by
 unfold compOk at h
 simp only [Bool.and_eq_true, List.all_eq_true, beq_iff_eq, bne_iff_ne, Bool.or_eq_true, List.any_eq_true] at h
 obtain ⟨⟨h1, h2⟩, h3⟩ := h
 refine ⟨h1, fun p hp => (h2 p hp).1.1.1, fun p hp q => ?_, fun p hp q => ?_, fun p hp q => ?_, h3⟩
 ·rcases (h2 p hp).1.1.2 with z | z
  ·exact absurd q z
  ·unfold cellish at z
   rw [Bool.and_eq_true] at z
   exact ⟨eq_of_beq z.1, _, eq_of_beq z.2⟩
 ·exact (h2 p hp).1.2.elim (absurd q) id
 ·exact (h2 p hp).2.elim (fun z => z.elim (absurd q) .inl) .inr
noncomputable abbrev k_dot0 : Nat := 12591
section
variable {c : Cx} {ρ δ : Nat → Addr} {T : Hp} {n : Nat} {h h' : Heap} {loc : Loc} {env : Env} {scope : Scope} {xs : List Nat} {C : Addr}
theorem FR.comp (fr : FR c ρ δ n loc env h) (cf : CompFacts env.kindOf scope xs) (hc : ∀ p ∈ scope.names, p.2 = .free → ∃ a, env.cells.lookup p.1 = some a) (hC : h.get? C = none) (off : Off c ρ δ n C) (hbC : c.hb.get? C = none)
  (k : ∀ b o, h.get? b = some o → h'.get? b = some o) (ns : h'.Ns C fun _ => none) : FR c ρ δ n (rm (k_dot0 :: xs) loc) (compEnvC scope (scope.names.foldl (closG env.cells) []) C env) h' := by
 have kd := kdC_env (env := env) (scope := scope) (C := C) (cl := scope.names.foldl (closG env.cells) []) fr.kind
 have cs : ∀ {x a}, (scope.names.foldl (closG env.cells) []).lookup x = some a → env.cells.lookup x = some a := fun {x a} e => clos_some scope.names [] hc (fun z => by cases z) e
 have kc : ∀ {a v}, h.IsCell a v → h'.IsCell a v := fun {a v} ⟨o, q, r⟩ => ⟨o, k _ o q, r⟩
 have kinds : ∀ {x : Str} {q : NameKind}, (compEnvC scope (scope.names.foldl (closG env.cells) []) C env).kindOf x = some q → ∃ k0, (x, k0) ∈ scope.names ∧ ((k0 = .free ∧ env.kindOf x = some .cell ∧ q = .cell) ∨ (q = k0 ∧ ¬ (k0 = .free ∧ env.kindOf x = some .cell))) := fun {x q} e => by
  rw [kd] at e; exact kdC_some _ e
 have isCell : ∀ {x : Str}, (compEnvC scope (scope.names.foldl (closG env.cells) []) C env).kindOf x = some .cell → env.kindOf x = some .cell ∧ (x, NameKind.free) ∈ scope.names := fun {x} e => by
  obtain ⟨k0, h1, h2⟩ := kinds e
  rcases h2 with ⟨h3, h4, _⟩ | ⟨h3, _⟩
  ·subst h3; exact ⟨h4, h1⟩
  ·subst h3; exact absurd rfl (cf.nocell _ h1)
 refine ⟨cf.kind, fr.glo, fr.bui, off, hbC, ?_, ?_, ?_, ⟨_, ns, ?_⟩, ?_, ?_⟩
 ·intro x a e
  obtain ⟨z1, z2, z3⟩ := fr.offC x a (cs e)
  exact ⟨z1, dead_ne z3 hC, let ⟨o, q⟩ := z3; ⟨o, k _ o q⟩⟩
 ·intro x a e1 e2
  exact fr.hbC x a (isCell e1).1 (cs e2)
 ·intro x y a e1 e2
  exact fr.inj x y a (cs e1) (cs e2)
 ·intro x v e q
  obtain ⟨l1, l2⟩ := lk_rm e
  obtain ⟨k0, h1, h2⟩ := kinds q
  rcases h2 with ⟨_, _, h3⟩ | ⟨h3, _⟩
  ·cases h3
  ·subst h3
   rcases cf.few _ h1 rfl with ⟨y, h4, h5⟩ | h4
   ·exact absurd (.tail _ (nmS_inj h5 ▸ h4)) l2
   ·have : x = k_dot0 := nmS_inj (h4.trans (by decide +kernel))
    subst this
    exact absurd (.head _) l2
 ·intro x v e q
  obtain ⟨l1, l2⟩ := lk_rm e
  have : (nmS x, NameKind.free) ∈ scope.names := by
   rcases q with q | q
   ·exact (isCell q).2
   ·obtain ⟨k0, h1, h2⟩ := kinds q
    rcases h2 with ⟨_, _, h3⟩ | ⟨h3, _⟩
    ·cases h3
    ·subst h3; exact h1
  obtain ⟨a, val, z1, z2, z3⟩ := fr.cel x v l1 (.inl (cf.free _ this rfl).1)
  exact ⟨a, val, clos_free z1 scope.names [] (.inl this), kc z2, z3⟩
 ·intro x q
  obtain ⟨h1, h2⟩ := isCell q
  obtain ⟨a, v, z1, z2⟩ := fr.celE x h1
  exact ⟨a, v, clos_free z1 scope.names [] (.inl h2), kc z2⟩
theorem FR.cells (fr : FR c ρ δ n loc env h) (cf : CompFacts env.kindOf scope xs) : ∀ p ∈ scope.names, p.2 = .free → ∃ a, env.cells.lookup p.1 = some a := fun p hp q => by
 obtain ⟨z1, x, z2⟩ := cf.free p hp q
 obtain ⟨a, v, z3, _⟩ := fr.celE x (by rw [z2]; exact z1)
 exact ⟨a, by rw [← z2]; exact z3⟩
end
end Mine
end
section
open PySem PySem.W PyProof.Rows
namespace Mine
theorem ItAt.self {prog : Program} {w : World} {A : Around} {s : Shared} {E : Value → Shared → Prop} {I a : Addr} {ik : IK} {i : Nat} {Q : Value → Shared → Prop} (it : ItAt s.heap I a ik i) (h : Q (.ref I) s) : wpAny (model prog w) A (pyIter (.ref I)) Q E s := by
 cases ik with
 | list => exact wpAny_pyIter_listiter it h
 | tuple => exact wpAny_pyIter_tupleiter it h
 | dict => exact wpAny_pyIter_keyiter it h
 | range => exact wpAny_pyIter_rangeiter it h
noncomputable abbrev testsF (env : Env) : PySem.Expr → Bool → Sem (ForInStep Bool) := fun c r => if r = true then do let ok ← isTrue c env (eval c env); pure (ForInStep.yield ok) else pure (ForInStep.yield r)
section
variable {prog : Program} {w : World} {A : Around} {s : Shared} {R : Result → Shared → Prop}
theorem listc_step {elt target iter : PySem.Expr} {ifs : List PySem.Expr} {scope : Scope} {pos : Pos} {it acc : Value} {env : Env} {E : Value → Shared → Prop} (hE : E = notedBy (model prog w) A env fun e s' => R (.error e) s')
  (h : wpAny (model prog w) A (pyNext it) (fun r s₁ => match r with
   | none => R (.ok .next) s₁
   | some v => wpAny (model prog w) A (letOwnedTupleGo target it v) (fun _ s₁' => wpAny (model prog w) A (assign target env v) (fun _ s₂ =>
     wpAny (model prog w) A (forIn ifs true (testsF env)) (fun ok s₃ =>
      if ok = true then wpAny (model prog w) A (eval elt env) (fun x s₄ =>
       wpAny (model prog w) A (call (.builtin "list.append") [acc, x]) (fun _ s₅ => codeAny (model prog w) A (.compLoop (.ListComp elt [⟨target, iter, ifs, 0⟩] scope pos) 0 it acc env) R s₅) E s₄) E s₃
      else codeAny (model prog w) A (.compLoop (.ListComp elt [⟨target, iter, ifs, 0⟩] scope pos) 0 it acc env) R s₃) E s₂) E s₁') E s₁) E s) :
  codeAny (model prog w) A (.compLoop (.ListComp elt [⟨target, iter, ifs, 0⟩] scope pos) 0 it acc env) R s := by
 refine codeAny_of_tree ?_
 show wpAny _ A ((compTurn (.ListComp elt [⟨target, iter, ifs, 0⟩] scope pos) 0 it acc env).onRaise (fun x => do noteFrame x env; theTreesLotGoes x)) _ _ s
 refine wpAny_noted ?_
 rw [compTurn_list]
 subst hE
 refine wpAny_bind (wpAny_standAt (wpAny_bind (wpAny_mono h (fun r s₁ h₁ => ?_) fun _ _ h' => h')))
 cases r with
 | none => exact wpAny_pure h₁
 | some v =>
  refine wpAny_bind (wpAny_mono h₁ (fun _ s₁' h₁' => ?_) fun _ _ h' => h')
  refine wpAny_bind (wpAny_mono h₁' (fun _ s₂ h₂ => wpAny_bind (wpAny_mono h₂ (fun ok s₃ h₃ => ?_) fun _ _ h' => h')) fun _ _ h' => h')
  cases ok with
  | false => exact wpAny_pure ⟨rfl, h₃⟩
  | true =>
   exact wpAny_bind (wpAny_bind (wpAny_mono h₃ (fun x s₄ h₄ => wpAny_bind (wpAny_mono h₄ (fun _ s₅ h₅ => wpAny_pure (wpAny_pure ⟨rfl, h₅⟩)) fun _ _ h' => h')) fun _ _ h' => h'))
theorem dictc_step {kx vx target iter : PySem.Expr} {ifs : List PySem.Expr} {scope : Scope} {pos : Pos} {it : Value} {D : Addr} {env : Env} {E : Value → Shared → Prop} (hE : E = notedBy (model prog w) A env fun e s' => R (.error e) s')
  (h : wpAny (model prog w) A (pyNext it) (fun r s₁ => match r with
   | none => R (.ok .next) s₁
   | some v => wpAny (model prog w) A (letOwnedTupleGo target it v) (fun _ s₁' => wpAny (model prog w) A (assign target env v) (fun _ s₂ =>
     wpAny (model prog w) A (forIn ifs true (testsF env)) (fun ok s₃ =>
      if ok = true then wpAny (model prog w) A (eval kx env) (fun kv s₄ => wpAny (model prog w) A (eval vx env) (fun vv s₅ =>
       wpAny (model prog w) A (dictSet D kv vv) (fun _ s₆ => codeAny (model prog w) A (.compLoop (.DictComp kx vx [⟨target, iter, ifs, 0⟩] scope pos) 0 it (.ref D) env) R s₆) E s₅) E s₄) E s₃
      else codeAny (model prog w) A (.compLoop (.DictComp kx vx [⟨target, iter, ifs, 0⟩] scope pos) 0 it (.ref D) env) R s₃) E s₂) E s₁') E s₁) E s) :
  codeAny (model prog w) A (.compLoop (.DictComp kx vx [⟨target, iter, ifs, 0⟩] scope pos) 0 it (.ref D) env) R s := by
 refine codeAny_of_tree ?_
 show wpAny _ A ((compTurn (.DictComp kx vx [⟨target, iter, ifs, 0⟩] scope pos) 0 it (.ref D) env).onRaise (fun x => do noteFrame x env; theTreesLotGoes x)) _ _ s
 refine wpAny_noted ?_
 rw [compTurn_dict]
 subst hE
 refine wpAny_bind (wpAny_standAt (wpAny_bind (wpAny_mono h (fun r s₁ h₁ => ?_) fun _ _ h' => h')))
 cases r with
 | none => exact wpAny_pure h₁
 | some v =>
  refine wpAny_bind (wpAny_mono h₁ (fun _ s₁' h₁' => ?_) fun _ _ h' => h')
  refine wpAny_bind (wpAny_mono h₁' (fun _ s₂ h₂ => wpAny_bind (wpAny_mono h₂ (fun ok s₃ h₃ => ?_) fun _ _ h' => h')) fun _ _ h' => h')
  cases ok with
  | false => exact wpAny_pure ⟨rfl, h₃⟩
  | true =>
   exact wpAny_bind (wpAny_bind (wpAny_mono h₃ (fun kv s₄ h₄ => wpAny_bind (wpAny_holding (wpAny_mono h₄ (fun vv s₅ h₅ => wpAny_bind (wpAny_standAt (wpAny_holding (wpAny_mono h₅ (fun _ s₆ h₆ => wpAny_pure ⟨rfl, h₆⟩) fun _ _ h' => h')))) fun _ _ h' => h'))) fun _ _ h' => h'))
end
noncomputable def Te (c : Cx) (l : PEs) (d : Nat) (loc : Loc) (T : Hp) (b : Bool) (T' : Hp) : Prop :=
 ∀ (xs : List PySem.Expr) (env : Env) (A : Around) (s : Shared) (ρ δ : Nat → Addr) (Q : Bool → Shared → Prop) (E : Value → Shared → Prop), MEs l env.kindOf xs → At c d loc T env A s ρ δ →
  (∀ ρ' δ' h' t', Go c No ρ δ T.n s.heap ρ' δ' T'.n h' → HR c ρ' δ' T' T'.n h' → Q b (Sh s h' t')) → wpAny (model c.prog c.w) A (forIn xs true (testsF env)) Q E s
section
variable {c : Cx} {d : Nat} {loc : Loc} {T T1 T2 : Hp} {e : PE} {l : PEs} {b : Bool}
theorem Te_nil : Te c .nil d loc T true T := by
 rintro _ env A s ρ δ Q E rfl a ct
 exact wpAny_pure (ct ρ δ s.heap s.toks Go.refl a.hr)
theorem Te_go (e1 : Tr c e d loc T true T1) (e2 : Te c l d loc T1 b T2) : Te c (.cons e l) d loc T b T2 := by
 rintro _ env A s ρ δ Q E ⟨e', l', rfl, m1, m2, _⟩ a ct
 rw [List.forIn_cons]
 refine wpAny_bind (wpAny_bind (e1 _ env A s ρ δ _ E m1 a fun ρ1 δ1 h1 t1 g1 hr1 => wpAny_pure ?_))
 exact e2 _ env A (Sh s h1 t1) ρ1 δ1 _ E m2 (a.go g1 hr1) fun ρ2 δ2 h2 t2 g2 hr2 => ct ρ2 δ2 h2 t2 (g1.trans g2) hr2
theorem Te_stop (e1 : Tr c e d loc T false T1) : Te c (.cons e l) d loc T false T1 := by
 rintro _ env A s ρ δ Q E ⟨e', l', rfl, m1, m2, _⟩ a ct
 rw [List.forIn_cons]
 refine wpAny_bind (wpAny_bind (e1 _ env A s ρ δ _ E m1 a fun ρ1 δ1 h1 t1 g1 hr1 => wpAny_pure ?_))
 have z := ct ρ1 δ1 h1 t1 g1 hr1
 clear m2
 induction l' with
 | nil => exact wpAny_pure z
 | cons x l' ih =>
  show wpAny _ _ (forIn (x :: l') false (testsF env)) _ _ _
  rw [List.forIn_cons]
  exact wpAny_bind (wpAny_pure ih)
end
inductive CK where | list (v : PE) | dict (k v : PE)
noncomputable def MC (kd : Kd) (ck : CK) (xs : List Nat) (ifs : PEs) (e : PySem.Expr) : Prop := match ck with
 | .list v => ∃ v' tg it ifs' scope p, e = .ListComp v' [⟨tg, it, ifs', 0⟩] scope p ∧ ME v kd v' ∧ MT kd xs tg ∧ MEs ifs kd ifs'
 | .dict k v => ∃ k' v' tg it ifs' scope p, e = .DictComp k' v' [⟨tg, it, ifs', 0⟩] scope p ∧ ME k kd k' ∧ ME v kd v' ∧ MT kd xs tg ∧ MEs ifs kd ifs'
noncomputable def Co (c : Cx) (ck : CK) (acc : Nat) (xs : List Nat) (src : Nat) (ik : IK) (i : Nat) (ifs : PEs) (d : Nat) (loc : Loc) (T T' : Hp) : Prop :=
 ∀ (e : PySem.Expr) (env : Env) (A : Around) (s : Shared) (h1 : Heap) (t1 : Nat) (ρ0 δ0 ρ δ : Nat → Addr) (n0 : Nat) (I : Addr) (R : Result → Shared → Prop), MC env.kindOf ck xs ifs e → (∀ x ∈ xs, env.kindOf (nmS x) = some .local) → At c d loc T env A (Sh s h1 t1) ρ δ →
  Off c ρ δ T.n I → c.hb.get? I = none → ¬ Own env I → src < T.n → acc < T.n → ItAt h1 I (ρ src) ik i → s.heap.get? I = none → s.heap.get? env.locals = none → Go c No ρ0 δ0 n0 s.heap ρ δ T.n h1 →
  (∀ ρ' δ' h' t', Go c No ρ0 δ0 n0 s.heap ρ' δ' T'.n h' → HR c ρ' δ' T' T'.n h' → Off c ρ' δ' T'.n env.locals → acc < T'.n → ρ' acc = ρ acc → (∃ m, h'.Ns env.locals m) → R (.ok .next) (Sh s h' t')) →
  codeAny (model c.prog c.w) A (.compLoop e 0 (.ref I) (.ref (ρ acc)) env) R (Sh s h1 t1)
section
variable {c : Cx} {ck : CK} {d acc src i : Nat} {xs : List Nat} {ik : IK} {ifs : PEs} {loc loc1 : Loc} {T T1 T2 T3 T4 : Hp} {x y kx : AV} {k v : PE} {ys : List AV} {es : List (AV × AV)} {ep : Nat}
theorem Co_end (e : Turn T src i none ik) : Co c ck acc xs src ik i ifs d loc T T := by
 intro ex env A s h1 t1 ρ0 δ0 ρ δ n0 I R mc tl a off hbI nOwn hs ha it dead deadL g ct
 have fin : ∀ {Q : Option Value → Shared → Prop} {E : Value → Shared → Prop}, (∀ s', R (.ok .next) s' → Q none s') → wpAny (model c.prog c.w) A (pyNext (.ref I)) Q E (Sh s h1 t1) := fun z =>
  next_end (s := Sh s h1 t1) e a.hr it a.ro.2.2 fun h2 eb => z _ (ct ρ δ h2 t1 (g.iter eb dead) (a.hr.of_ext eb off hbI) a.fr.offL ha rfl (let ⟨m, q, _⟩ := (a.fr.of_ext eb nOwn).ns; ⟨m, q⟩))
 cases ck with
 | list => obtain ⟨v', tg, it', ifs', scope, p, rfl, _⟩ := mc; exact listc_step rfl (fin fun s' z => z)
 | dict => obtain ⟨k', v', tg, it', ifs', scope, p, rfl, _⟩ := mc; exact dictc_step rfl (fin fun s' z => z)
theorem co_turn {b : Bool} {tg : PySem.Expr} {ifs' : List PySem.Expr} {env : Env} {A : Around} {s : Shared} {h1 : Heap} {t1 : Nat} {ρ0 δ0 ρ δ : Nat → Addr} {n0 : Nat} {I : Addr} {P : Option Value → Shared → Prop} {E : Value → Shared → Prop} {K : Bool → Shared → Prop} (e : Turn T src i (some x) ik) (eb : BindTo T xs x loc loc1) (e2 : Te c ifs d loc1 T b T1) (mt : MT env.kindOf xs tg) (mi : MEs ifs env.kindOf ifs') (tl : ∀ x ∈ xs, env.kindOf (nmS x) = some .local) (a : At c d loc T env A (Sh s h1 t1) ρ δ)
  (off : Off c ρ δ T.n I) (hbI : c.hb.get? I = none) (nOwn : ¬ Own env I) (it : ItAt h1 I (ρ src) ik i) (dead : s.heap.get? I = none) (deadL : s.heap.get? env.locals = none) (g : Go c No ρ0 δ0 n0 s.heap ρ δ T.n h1)
  (hP : ∀ val s₁, wpAny (model c.prog c.w) A (letOwnedTupleGo tg (.ref I) val) (fun _ s₁' => wpAny (model c.prog c.w) A (assign tg env val) (fun _ s₂ => wpAny (model c.prog c.w) A (forIn ifs' true (testsF env)) K E s₂) E s₁') E s₁ → P (some val) s₁)
  (k : ∀ ρ4 δ4 h3 h4 t4, Go c No ρ0 δ0 n0 s.heap ρ δ T.n h3 → ItAt h3 I (ρ src) ik (i + 1) → Go c No ρ δ T.n h3 ρ4 δ4 T1.n h4 → At c d loc1 T1 env A (Sh s h4 t4) ρ4 δ4 → K b (Sh s h4 t4)) : wpAny (model c.prog c.w) A (pyNext (.ref I)) P E (Sh s h1 t1) := by
 have nL : I ≠ env.locals := fun z => nOwn (.inl z)
 refine next_item (s := Sh s h1 t1) e a.hr it fun h2 t2 val vr sb it2 => hP _ _ ?_
 refine ItAt.own (s := Sh s h2 t2) it2 ?_
 refine bind_snd (X := fun a => a = env.locals) (s := Sh s h2 t2) eb mt (a.fr.of_ext sb.extBut nOwn) (a.hr.of_ext sb.extBut off hbI) a.ro vr (fun h3 t3 g3 hr3 fr3 => ?_) (fun y hy => ⟨fun _ => rfl, fun a q _ => by rw [tl y hy] at q; cases q⟩)
 have G3 : Go c No ρ0 δ0 n0 s.heap ρ δ T.n h3 := ((g.iter sb.extBut dead).any.trans g3).weak fun a la z => (dead_ne la deadL z).elim
 exact e2 ifs' env A (Sh s h3 t3) ρ δ _ _ mi ⟨fr3, hr3, a.ro⟩ fun ρ4 δ4 h4 t4 g4 hr4 => k ρ4 δ4 h3 h4 t4 G3 (it2.go g3 off nL) g4 ⟨fr3.go g4, hr4, a.ro⟩
theorem co_again {e : PySem.Expr} {env : Env} {A : Around} {s : Shared} {ρ0 δ0 ρ δ ρ' δ' : Nat → Addr} {h3 h4 : Heap} {t4 n0 : Nat} {I : Addr} {R : Result → Shared → Prop} (e3 : Co c ck acc xs src ik (i + 1) ifs d loc1 T1 T2) (mc : MC env.kindOf ck xs ifs e) (tl : ∀ x ∈ xs, env.kindOf (nmS x) = some .local) (ro : Room d A)
  (off : Off c ρ δ T.n I) (hbI : c.hb.get? I = none) (nOwn : ¬ Own env I) (hs : src < T.n) (ha : acc < T.n) (dead : s.heap.get? I = none) (deadL : s.heap.get? env.locals = none)
  (ct : ∀ ρ' δ' h' t', Go c No ρ0 δ0 n0 s.heap ρ' δ' T2.n h' → HR c ρ' δ' T2 T2.n h' → Off c ρ' δ' T2.n env.locals → acc < T2.n → ρ' acc = ρ acc → (∃ m, h'.Ns env.locals m) → R (.ok .next) (Sh s h' t'))
  (g3 : Go c No ρ0 δ0 n0 s.heap ρ δ T.n h3) (it3 : ItAt h3 I (ρ src) ik (i + 1)) (g4 : Go c No ρ δ T.n h3 ρ' δ' T1.n h4) (hr4 : HR c ρ' δ' T1 T1.n h4) (fr4 : FR c ρ' δ' T1.n loc1 env h4) : codeAny (model c.prog c.w) A (.compLoop e 0 (.ref I) (.ref (ρ acc)) env) R (Sh s h4 t4) := by
 rw [← (g4.same acc ha).1]
 refine e3 e env A s h4 t4 ρ0 δ0 ρ' δ' n0 I R mc tl ⟨fr4, hr4, ro⟩ (g4.off off it3.live) hbI nOwn (Nat.lt_of_lt_of_le hs g4.le) (Nat.lt_of_lt_of_le ha g4.le) ?_ dead deadL (g3.trans g4) ?_
 ·rw [(g4.same src hs).1]
  exact it3.go g4 off id
 ·intro ρ5 δ5 h5 t5 z1 z2 z3 z4 z5 z6
  exact ct ρ5 δ5 h5 t5 z1 z2 z3 z4 (z5.trans (g4.same acc ha).1) z6
theorem Co_skip (e : Turn T src i (some x) ik) (eb : BindTo T xs x loc loc1) (e2 : Te c ifs d loc1 T false T1) (e3 : Co c ck acc xs src ik (i + 1) ifs d loc1 T1 T2) : Co c ck acc xs src ik i ifs d loc T T2 := by
 intro ex env A s h1 t1 ρ0 δ0 ρ δ n0 I R mc tl a off hbI nOwn hs ha it dead deadL g ct
 have mc' := mc
 have K : ∀ ρ4 δ4 h3 h4 t4, Go c No ρ0 δ0 n0 s.heap ρ δ T.n h3 → ItAt h3 I (ρ src) ik (i + 1) → Go c No ρ δ T.n h3 ρ4 δ4 T1.n h4 → At c d loc1 T1 env A (Sh s h4 t4) ρ4 δ4 → codeAny (model c.prog c.w) A (.compLoop ex 0 (.ref I) (.ref (ρ acc)) env) R (Sh s h4 t4) :=
  fun ρ4 δ4 h3 h4 t4 G3 it3 g4 a4 => co_again e3 mc' tl a.ro off hbI nOwn hs ha dead deadL ct G3 it3 g4 a4.hr a4.fr
 cases ck with
 | list => obtain ⟨v', tg, it', ifs', scope, p, rfl, mv, mt, mi⟩ := mc; exact listc_step rfl (co_turn e eb e2 mt mi tl a off hbI nOwn it dead deadL g (fun _ _ z => z) K)
 | dict => obtain ⟨k', v', tg, it', ifs', scope, p, rfl, mk, mv, mt, mi⟩ := mc; exact dictc_step rfl (co_turn e eb e2 mt mi tl a off hbI nOwn it dead deadL g (fun _ _ z => z) K)
theorem Co_list (e : Turn T src i (some x) ik) (eb : BindTo T xs x loc loc1) (e2 : Te c ifs d loc1 T true T1) (ev : Ev c v d loc1 T1 y T2) (ho : T2.get acc = some (.list ys)) (sz : ys.length < 4000) (hro : 1 ≤ acc) (e3 : Co c (.list v) acc xs src ik (i + 1) ifs d loc1 (hput T2 acc (.list (ys ++ [y]))) T3) : Co c (.list v) acc xs src ik i ifs d loc T T3 := by
 intro ex env A s h1 t1 ρ0 δ0 ρ δ n0 I R mc tl a off hbI nOwn hs ha it dead deadL g ct
 have mc' := mc
 obtain ⟨v', tg, it', ifs', scope, p, rfl, mv, mt, mi⟩ := mc
 refine listc_step rfl (co_turn e eb e2 mt mi tl a off hbI nOwn it dead deadL g (fun _ _ z => z) fun ρ4 δ4 h3 h4 t4 G3 it3 g4 a4 => ?_)
 refine ev _ env A (Sh s h4 t4) ρ4 δ4 _ _ mv a4 fun ρ5 δ5 h5 t5 vy g5 hr5 vr5 => ?_
 have la := Nat.lt_of_lt_of_le ha g4.le
 have ea : ρ5 acc = ρ acc := by rw [(g5.same acc la).1, (g4.same acc ha).1]
 rw [← ea]
 obtain ⟨lt, vals, kk, q1, q2⟩ := hr5.obj _ _ ho
 rw [q2.len] at sz
 refine wpAny_list_append_plain (s := Sh s h5 t5) (items := vals.toArray) ⟨kk, q1⟩ (fun h' z1 z2 => ?_) (by rw [List.size_toArray]; exact szl (by first | assumption | omega))
 obtain ⟨k2, z1⟩ := z1
 obtain ⟨hr6, g6⟩ := hr5.turn1 (X := No) (ao := .list (ys ++ [y])) (h' := h') hro lt z2.extBut ⟨_, z1⟩ ⟨vals ++ [vy], k2, by rw [z1]; simp [W.listOf], q2.append ⟨vr5, trivial⟩⟩
 rw [ea]
 exact co_again (s := s) (T1 := hput T2 acc (.list (ys ++ [y]))) e3 mc' tl a.ro off hbI nOwn hs ha dead deadL ct G3 it3 (g4.trans (g5.trans g6)) hr6 ((a4.fr.go g5).go g6)
theorem Co_dict (e : Turn T src i (some x) ik) (eb : BindTo T xs x loc loc1) (e2 : Te c ifs d loc1 T true T1) (ek : Ev c k d loc1 T1 kx T2) (ev : Ev c v d loc1 T2 y T3) (ho : T3.get acc = some (.dict es ep)) (hk : kOk kx es = true) (sz : es.length < 4000) (hro : 1 ≤ acc) (e3 : Co c (.dict k v) acc xs src ik (i + 1) ifs d loc1 (hput T3 acc (.dict (dpt kx y es) (epS kx es ep))) T4) : Co c (.dict k v) acc xs src ik i ifs d loc T T4 := by
 intro ex env A s h1 t1 ρ0 δ0 ρ δ n0 I R mc tl a off hbI nOwn hs ha it dead deadL g ct
 have mc' := mc
 obtain ⟨k', v', tg, it', ifs', scope, p, rfl, mk, mv, mt, mi⟩ := mc
 refine dictc_step rfl (co_turn e eb e2 mt mi tl a off hbI nOwn it dead deadL g (fun _ _ z => z) fun ρ4 δ4 h3 h4 t4 G3 it3 g4 a4 => ?_)
 refine ek _ env A (Sh s h4 t4) ρ4 δ4 _ _ mk a4 fun ρ5 δ5 h5 t5 vk g5 hr5 vr5 => ?_
 have a5 := At.go (t' := t5) a4 g5 hr5
 refine ev _ env A (Sh s h5 t5) ρ5 δ5 _ _ mv a5 fun ρ6 δ6 h6 t6 vy g6 hr6 vr6 => ?_
 have la := Nat.lt_of_lt_of_le ha g4.le
 have lb := Nat.lt_of_lt_of_le la g5.le
 have ea : ρ6 acc = ρ acc := by rw [(g6.same acc lb).1, (g5.same acc la).1, (g4.same acc ha).1]
 rw [← ea]
 refine (DR.set (s := Sh s h6 t6) (hr6.obj _ _ ho).2 hk sz (g6.vr vr5) vr6 fun h7 t7 x' sb' => ?_).2
 obtain ⟨hr7, g7⟩ := hr6.turn1 (ao := .dict (dpt kx y es) (epS kx es ep)) (X := No) hro (Nat.lt_of_lt_of_le lb g6.le) sb'.extBut x'.live x'
 rw [ea]
 exact co_again (s := s) (T1 := hput T3 acc (.dict (dpt kx y es) (epS kx es ep))) e3 mc' tl a.ro off hbI nOwn hs ha dead deadL ct G3 it3 (g4.trans (g5.trans (g6.trans g7))) hr7 ((a5.fr.go g6).go g7)
end
end Mine
end
section
open PySem PySem.W PyProof.Rows
namespace Mine
section
variable {c : Cx} {d : Nat} {loc : Loc} {T T1 T2 : Hp}
theorem comp_snd {ck : CK} {xs : List Nat} {ifs : PEs} {e : PySem.Expr} {scope : Scope} {env : Env} {A : Around} {s : Shared} {ρ δ : Nat → Addr} {r : Nat} {ik : IK} {ao : AO} {lo : Obj} {Q E : Value → Shared → Prop} {newAcc : Sem Value} {use : Option (Value → Sem Unit)}
  (hacc : ∀ {s : Shared} {Q : Value → Shared → Prop}, Q (.ref s.heap.objs.size) { s with heap := s.heap.push lo } → wpAny (model c.prog c.w) A newAcc Q E s)
  (hor : ∀ {n : Nat} {ρ : Nat → Addr} {H : Heap}, (∀ b o, c.hb.get? b = some o → H.get? b = some o) → OR c n ρ (H.push lo) H.objs.size H.objs.size ao) (hlo : lo.isFreed = false)
  (hst : ∀ {it acc : Value} {env : Env} {R : Result → Shared → Prop} {s : Shared}, codeAny (model c.prog c.w) A (.compLoop e 0 it acc env) R s → wpAny (model c.prog c.w) A (pyIter it) (fun it' s' => codeAny (model c.prog c.w) A (.compLoop e 0 it' acc env) R s') (notedBy (model c.prog c.w) A env fun x s' => R (.error x) s') s → codeAny (model c.prog c.w) A (.compStart e 0 it acc env) R s)
  (mc : MC (kdC env.kindOf scope) ck xs ifs e) (cf : CompFacts env.kindOf scope xs) (eik : IkOf T r ik) (hv : Co c ck T.n xs r ik 0 ifs d (rm (k_dot0 :: xs) loc) (hnew T ao) T2)
  (lt : r < T.n) (a : At c d loc T env A s ρ δ) (ct : ∀ (C : Addr) ρ' δ' h' t', s.heap.get? C = none → Go c No ρ δ T.n s.heap ρ' δ' T2.n h' → HR c ρ' δ' T2 T2.n h' → Off c ρ' δ' T2.n C → T.n < T2.n → (∃ m, h'.Ns C m) → compPost (model c.prog c.w) A E use Q (.ref (ρ' T.n)) C (.ok .next) (Sh s h' t')) :
  wpAny (model c.prog c.w) A (pyIter (.ref (ρ r))) (fun it s₂ => wpAny (model c.prog c.w) A newAcc (fun acc s₃ =>
   wpAny (model c.prog c.w) A (newFunctionEnv scope env.globals (scope.names.foldl (closG env.cells) []) [] env.qual none .none (some env)) (fun cenv s₄ =>
    codeAny (model c.prog c.w) A (.compStart e 0 it acc { cenv with scope := relabel scope env }) (compPost (model c.prog c.w) A E use Q acc cenv.locals) s₄) E s₃) E s₂) E s := by
 obtain ⟨fr, hr, ro⟩ := a
 refine iter_snd eik hr fun ob hf ia => hacc ?_
 have hc := fr.cells cf
 have dI : s.heap.get? s.heap.objs.size = none := dead_end _ (Nat.le_refl _)
 have k1 : ∀ b o, s.heap.get? b = some o → (s.heap.push ob).get? b = some o := fun b o e => Heap.get?_push_of_some _ e
 have lI : Live (s.heap.push ob) s.heap.objs.size := ⟨ob, Heap.get?_push_size _ hf⟩
 have hr1 : HR c ρ δ T T.n (s.heap.push ob) := hr.of_keeps k1
 have offI : Off c ρ δ T.n s.heap.objs.size := hr.offNew dI
 have hbI : c.hb.get? s.heap.objs.size = none := hr.dead dI
 have fr1 : FR c ρ δ T.n loc env (s.heap.push ob) := fr.go (Go.of_keeps (X := No) k1)
 dsimp only
 generalize hH1 : s.heap.push ob = H1 at *
 obtain ⟨hr2, g2⟩ := hr1.push (X := No) (o := lo) (get_hnew T ao) hlo (hor hr1.base)
 have fr2 := fr1.go g2
 have lI2 : Live (H1.push lo) s.heap.objs.size := let ⟨o, q⟩ := lI; ⟨o, Heap.get?_push_of_some _ q⟩
 generalize hH2 : H1.push lo = H2 at *
 refine wpAny_newFunctionEnv cf.nocell (by intro y hy; cases hy) (fun h3 ns sb => ?_) cf.kind
 dsimp only at ns sb ⊢
 have dC : H2.get? H2.objs.size = none := dead_end _ (Nat.le_refl _)
 have k3 : ∀ b o, H2.get? b = some o → h3.get? b = some o := fun b o q => sb.extBut b o (Nat.ne_of_lt (Heap.lt_size q)) (Heap.get?_push_of_some _ q)
 have k02 : ∀ b o, s.heap.get? b = some o → H2.get? b = some o := fun b o q => by rw [← hH2]; exact Heap.get?_push_of_some _ (k1 b o q)
 have offC : Off c (ext ρ T.n H1.objs.size) (ext δ T.n H1.objs.size) (T.n + 1) H2.objs.size := hr2.offNew (s := { s with heap := H2 }) dC
 have hbC : c.hb.get? H2.objs.size = none := hr2.dead (s := { s with heap := H2 }) dC
 have frc := fr2.comp cf hc dC offC hbC k3 ns
 have hr3 := hr2.of_keeps k3
 have dC0 : s.heap.get? H2.objs.size = none := by
  cases q : s.heap.get? H2.objs.size with
  | none => rfl
  | some o => rw [k02 _ _ q] at dC; cases dC
 have ia3 : ItAt h3 s.heap.objs.size (ρ r) ik 0 := by
  obtain ⟨o, q, _, k⟩ := ia.obj
  exact k _ (k3 _ _ (by rw [← hH2]; exact Heap.get?_push_of_some _ q))
 have loop : codeAny (model c.prog c.w) A (.compLoop e 0 (.ref s.heap.objs.size) (.ref H1.objs.size) (compEnvC scope (scope.names.foldl (closG env.cells) []) H2.objs.size env)) (compPost (model c.prog c.w) A E use Q (.ref H1.objs.size) H2.objs.size) (Sh s h3 s.toks) := by
  have ea : ext ρ T.n H1.objs.size T.n = H1.objs.size := ext_at ..
  have er : ext ρ T.n H1.objs.size r = ρ r := ext_lt lt
  rw [show (Value.ref H1.objs.size) = Value.ref (ext ρ T.n H1.objs.size T.n) by rw [ea]]
  refine hv e (compEnvC scope (scope.names.foldl (closG env.cells) []) H2.objs.size env) A s h3 s.toks ρ δ (ext ρ T.n H1.objs.size) (ext δ T.n H1.objs.size) T.n s.heap.objs.size _ (by rw [kdC_env fr.kind]; exact mc) ?_ ⟨frc, hr3, ro⟩ (g2.off offI lI) hbI ?_ (Nat.lt_succ_of_lt lt) (Nat.lt_succ_self _) (by rw [er]; exact ia3) dI dC0 ((Go.of_keeps k1).trans (g2.trans (Go.of_keeps k3))) ?_
  ·intro x hx
   exact lookup_relabel_local (cf.tgt x hx)
  ·rintro (z | ⟨x, z⟩)
   ·exact dead_ne lI2 dC z
   ·have := clos_some scope.names [] hc (fun z => by cases z) z
    exact dead_ne (fr.offC x _ this).2.2 dI rfl
  ·intro ρ' δ' h' t' z1 z2 z3 z4 z5 z6
   have := ct _ ρ' δ' h' t' dC0 z1 z2 z3 z4 z6
   rw [z5] at this
   exact this
 exact hst loop (ItAt.self (s := Sh s h3 s.toks) ia3 loop)
variable {it k v : PE} {xs : List Nat} {x : Nat} {ifs : PEs} {r : Nat} {ik : IK}
theorem post_none {s : Shared} {ρ δ : Nat → Addr} {A : Around} {E Q : Value → Shared → Prop} (hr : HR c ρ δ T T.n s.heap) (ct : Kv c s ρ δ T T2 (.ref T.n) Q) (C : Addr) (ρ' δ' : Nat → Addr) (h' : Heap) (t' : Nat) (dC : s.heap.get? C = none) (z1 : Go c No ρ δ T.n s.heap ρ' δ' T2.n h') (z2 : HR c ρ' δ' T2 T2.n h') (z3 : Off c ρ' δ' T2.n C) (z4 : T.n < T2.n) (z6 : ∃ m, h'.Ns C m) : compPost (model c.prog c.w) A E none Q (.ref (ρ' T.n)) C (.ok .next) (Sh s h' t') :=
 let ⟨m, z6⟩ := z6; ⟨m, z6, fun h'' sb' => ct ρ' δ' h'' t' _ (z1.iter sb'.extBut dC) (z2.of_ext sb'.extBut z3 (hr.dead dC)) ⟨z4, rfl⟩⟩
theorem R_listc (e1 : Ev c it d loc T (.ref r) T1) (hk : IkOf T1 r ik) (e2 : Co c (.list v) T1.n xs r ik 0 ifs d (rm (k_dot0 :: xs) loc) (hnew T1 (.list [])) T2) : Ev c (.listc v xs it ifs) d loc T (.ref T1.n) T2 := by
 rintro _ env A s ρ δ Q E ⟨v', tg, it', ifs', scope, p, rfl, m1, ns, ck, mv, mt, mi⟩ a ct
 have cf := compOk_of ck
 rw [eval_ListComp]
 refine wpAny_comprehension_free (use := none) (g := ⟨tg, it', ifs', 0⟩) (gs := []) rfl (fun x => fold_no ns x) (clos_eq (a.fr.cells cf)) cf.kind cf.loc ?_
 show wpAny _ _ (eval it' env) _ _ _
 refine e1 _ env A s ρ δ _ E m1 a fun ρ1 δ1 h' t1 va g1 hr1 vr1 => ?_
 rw [vr1.2]
 exact comp_snd (ck := .list v) (s := Sh s h' t1) (lo := { cls := .type "list", data := .seq ([] : List Value).toArray }) (ao := .list []) (fun z => wpAny_newObj_type z) (fun _ => ⟨[], 0, Heap.get?_push_size _ rfl, trivial⟩) rfl codeAny_compStart_list ⟨v', tg, it', ifs', scope, p, rfl, mv, mt, mi⟩ cf hk e2 vr1.1 (a.go g1 hr1) (post_none (s := Sh s h' t1) hr1 (ct.go g1))
theorem swaps_yes {e : PySem.Expr} {y : Str} {np : Pos} {l : Nat} {env : Env} (hk : env.scope.kind = .function) (h : swp env.kindOf e y np = true) : swapsWith e (some (.Name y np)) l env = pure true := by
 cases e <;> first | cases h | skip
 have b : (env.blockKind == ScopeKind.function) = true := by unfold Env.blockKind; rw [hk]; rfl
 rename_i v gs s p
 have h : (env.kindOf y == some .local && np.line == p.line && !(s.names.any fun q => q.1 == y && (q.2 == .local || q.2 == .cell))) = true := h
 show (pure (env.blockKind == ScopeKind.function && env.kindOf y == some .local && np.line == p.line && !(s.names.any fun q => q.1 == y && (q.2 == .local || q.2 == .cell))) : Sem Bool) = pure true
 rw [b, Bool.true_and, h]
theorem R_asgC (e1 : Ev c it d loc T (.ref r) T1) (hk : IkOf T1 r ik) (e2 : Co c (.list v) T1.n xs r ik 0 ifs d (rm (k_dot0 :: xs) loc) (hnew T1 (.list [])) T2) : St c (.asgC x v xs it ifs) d loc T (.nxt (pt loc x (.ref T1.n))) T2 := by
 rintro _ env A s ρ δ Q E ⟨np, _, sp, rfl, ⟨v', tg, it', ifs', scope, p, rfl, m1, ns, ck, mv, mt, mi⟩, sw⟩ a ct
 have cf := compOk_of ck
 have ml : mine? (env.kindOf (nmS x)) = true := by
  have h : (env.kindOf (nmS x) == some .local && np.line == p.line && !(scope.names.any fun q => q.1 == nmS x && (q.2 == .local || q.2 == .cell))) = true := sw
  rw [Bool.and_eq_true, Bool.and_eq_true] at h
  rw [eq_of_beq h.1.1]; rfl
 rw [exec_Assign_Name_used _ _ _ _ (swaps_yes a.fr.kind sw)]
 refine wpAny_bind (wpAny_standAt (wpAny_bind ?_))
 show wpAny _ A (do let _ ← comprehension (.ListComp v' [⟨tg, it', ifs', 0⟩] scope p) scope env _ (newList []) false (eval it' env) (some (assign (.Name (nmS x) np) env))) _ _ s
 refine wpAny_bind (wpAny_mono (wpAny_comprehension_free (use := some (assign (.Name (nmS x) np) env)) (Q := fun _ s' => Q .next s') (g := ⟨tg, it', ifs', 0⟩) (gs := []) rfl (fun x => fold_no ns x) (clos_eq (a.fr.cells cf)) cf.kind cf.loc ?_) (fun _ s' hq => wpAny_pure (wpAny_pure hq)) fun _ _ e => e)
 show wpAny _ _ (eval it' env) _ _ _
 refine e1 _ env A s ρ δ _ E m1 a fun ρ1 δ1 h' t1 va g1 hr1 vr1 => ?_
 rw [vr1.2]
 refine comp_snd (ck := .list v) (s := Sh s h' t1) (lo := { cls := .type "list", data := .seq ([] : List Value).toArray }) (ao := .list []) (fun z => wpAny_newObj_type z) (fun _ => ⟨[], 0, Heap.get?_push_size _ rfl, trivial⟩) rfl codeAny_compStart_list ⟨v', tg, it', ifs', scope, p, rfl, mv, mt, mi⟩ cf hk e2 vr1.1 (a.go g1 hr1) ?_
 intro C ρ' δ' h2 t2 dC z1 z2 z3 z4 ⟨m, z6⟩
 have fr1 := a.fr.go g1
 have nOwn : ¬ Own env C := by
  rintro (z | ⟨y, z⟩)
  ·obtain ⟨m, q, _⟩ := fr1.ns
   exact dead_ne (live_ns q) dC z.symm
  ·exact dead_ne (fr1.offC y _ z).2.2 dC rfl
 refine wpAny_assign_Name (store_snd (s := Sh s h2 t2) (v := .ref T1.n) (fr1.go z1) z2 ⟨z4, rfl⟩ ml fun h3 t3 g r f => ?_)
 obtain ⟨o, es, ep, ho, rr⟩ := z6
 obtain ⟨_, q, _⟩ := g.keep _ o ho z3 nOwn
 have hb : c.hb.get? C = none := hr1.dead (s := Sh s h' t1) dC
 refine ⟨m, ⟨_, es, ep, q, rr⟩, fun h4 sb => ct ρ' δ' h4 t3 ?_ (r.of_ext sb.extBut z3 hb) (f.of_ext sb.extBut nOwn)⟩
 exact g1.any.trans ((z1.any.trans g).iter sb.extBut dC)
theorem R_dictc (ok : Ok c) (e1 : Ev c it d loc T (.ref r) T1) (hk : IkOf T1 r ik) (e2 : Co c (.dict k v) T1.n [x] r ik 0 ifs d (rm (k_dot0 :: [x]) loc) (hnew T1 (.dict [] 0)) T2) : Ev c (.dictc k v x it ifs) d loc T (.ref T1.n) T2 := by
 rintro _ env A s ρ δ Q E ⟨k', v', tg, it', ifs', scope, p, rfl, m1, ns, ck, mk, mv, mt, mi⟩ a ct
 have cf := compOk_of ck
 rw [arm_eval_DictComp]
 refine wpAny_comprehension_free (use := none) (g := ⟨tg, it', ifs', 0⟩) (gs := []) rfl (fun x => fold_no ns x) (clos_eq (a.fr.cells cf)) cf.kind cf.loc ?_
 show wpAny _ _ (eval it' env) _ _ _
 refine e1 _ env A s ρ δ _ E m1 a fun ρ1 δ1 h' t1 va g1 hr1 vr1 => ?_
 rw [vr1.2]
 refine comp_snd (ck := .dict k v) (s := Sh s h' t1) (lo := { cls := .type "dict", data := .dict #[] }) (ao := .dict [] 0) (fun z => wpAny_newObj_type z) (fun {n ρ H} kb => ?_) rfl codeAny_compStart_dict ⟨k', v', tg, it', ifs', scope, p, rfl, mk, mv, mt, mi⟩ cf hk e2 vr1.1 (a.go g1 hr1) (post_none (s := Sh s h' t1) hr1 (ct.go g1))
 refine ⟨beq_false_of_ne fun z => ?_, .inl ⟨[], ⟨_, #[], Heap.get?_push_size _ rfl, ⟨rfl, rfl, rfl⟩, rfl, fun _ he => by simp at he, Pairs.nil, List.nodup_nil⟩, trivial⟩⟩
 obtain ⟨ob, q⟩ := ok.sysm
 have := kb _ _ q
 rw [← z, dead_end H (Nat.le_refl _)] at this
 cases this
end
section
variable {prog : Program} {w : World} {A : Around} {s : Shared}
theorem while_step {R : Result → Shared → Prop} {test : PySem.Expr} {body : List Stmt} {env : Env} {E : Value → Shared → Prop} (hE : E = notedBy (model prog w) A env fun e s' => R (.error e) s')
  (h : wpAny (model prog w) A (isTrue test env (eval test env)) (fun b s₂ => match b with
   | true => wpAny (model prog w) A (execs body env) (fun f s₃ => match f with
     | .next | .cont => codeAny (model prog w) A (.whileLoop test body [] env) R s₃
     | .brk => R (.ok .next) s₃
     | .ret v => R (.ok (.ret v)) s₃) E s₂
   | false => R (.ok .next) s₂) E s) :
  codeAny (model prog w) A (.whileLoop test body [] env) R s := by
 refine codeAny_of_tree ?_
 show wpAny _ A ((whileTurn test body [] env).onRaise (fun x => do noteFrame x env; theTreesLotGoes x)) _ _ s
 refine wpAny_noted ?_
 simp only [whileTurn]
 subst hE
 refine wpAny_bind (wpAny_mono h (fun b s₂ h₂ => ?_) fun _ _ h' => h')
 cases b with
 | false =>
  simp only [Bool.false_eq_true, if_false]
  exact wpAny_bind (wpAny_execs_nil (wpAny_pure h₂))
 | true =>
  simp only [if_true]
  refine wpAny_bind (wpAny_mono h₂ (fun f s₃ h₃ => ?_) fun _ _ h' => h')
  cases f with
  | next => exact wpAny_pure ⟨rfl, h₃⟩
  | cont => exact wpAny_pure ⟨rfl, h₃⟩
  | brk => exact wpAny_pure h₃
  | ret v => exact wpAny_pure h₃
end
noncomputable def Wl (c : Cx) (t : PE) (b : PSs) (d : Nat) (loc : Loc) (T : Hp) (f : Fl) (T' : Hp) : Prop :=
 ∀ (test : PySem.Expr) (body : List Stmt) (env : Env) (A : Around) (s : Shared) (ρ δ : Nat → Addr) (R : Result → Shared → Prop), ME t env.kindOf test → MSs b env.kindOf body → At c d loc T env A s ρ δ → Kf c env s ρ δ T T' f (fun f s' => R (.ok f) s') → codeAny (model c.prog c.w) A (.whileLoop test body [] env) R s
section
variable {c : Cx} {d : Nat} {loc loc1 : Loc} {T T1 T2 T3 : Hp} {t : PE} {b hb : PSs} {f : Fl} {v : AV} {cl x : Nat}
theorem W_end (e1 : Tr c t d loc T false T1) : Wl c t b d loc T (.nxt loc) T1 := by
 intro test body env A s ρ δ R me mb a ct
 exact while_step rfl (e1 _ env A s ρ δ _ _ me a fun ρ1 δ1 h' t1 g1 hr1 => ct ρ1 δ1 h' t1 g1.any hr1 (a.fr.go g1))
theorem W_next (e1 : Tr c t d loc T true T1) (e2 : Ex c b d loc T1 (.nxt loc1) T2) (e3 : Wl c t b d loc1 T2 f T3) : Wl c t b d loc T f T3 := by
 intro test body env A s ρ δ R me mb a ct
 refine while_step rfl (e1 _ env A s ρ δ _ _ me a fun ρ1 δ1 h' t1 g1 hr1 => ?_)
 refine e2 _ env A (Sh s h' t1) ρ1 δ1 _ _ mb (a.go g1 hr1) fun ρ2 δ2 h2 t2 g2 hr2 fr2 => ?_
 exact e3 _ _ env A (Sh s h2 t2) ρ2 δ2 R me mb ⟨fr2, hr2, a.ro⟩ (ct.go (g1.any.trans g2))
theorem W_ret (e1 : Tr c t d loc T true T1) (e2 : Ex c b d loc T1 (.ret v) T2) : Wl c t b d loc T (.ret v) T2 := by
 intro test body env A s ρ δ R me mb a ct
 refine while_step rfl (e1 _ env A s ρ δ _ _ me a fun ρ1 δ1 h' t1 g1 hr1 => ?_)
 exact e2 _ env A (Sh s h' t1) ρ1 δ1 _ _ mb (a.go g1 hr1) fun ρ2 δ2 h2 t2 val g2 hr2 vr2 => ct ρ2 δ2 h2 t2 val (g1.any.trans g2) hr2 vr2
theorem R_whl (e1 : Wl c t b d loc T f T1) : St c (.whl t b) d loc T f T1 := by
 rintro _ env A s ρ δ Q E ⟨t', b', p, rfl, mt, mb⟩ a ct
 exact wpAny_While (e1 _ _ env A s ρ δ _ mt mb a ct)
theorem R_try (e1 : Ex c b d loc T f T1) : St c (.try b cl x hb) d loc T f T1 := by
 rintro _ env A s ρ δ Q E ⟨b', h₀, hs, p, rfl, mb⟩ a ct
 refine wpAny_Try_except (e1 _ env A s ρ δ _ _ mb a ?_)
 cases f with
 | nxt l => exact fun ρ' δ' h' t' g r f => wpAny_execs_nil (ct ρ' δ' h' t' g r f)
 | ret v => exact ct
end
end Mine
end
section
open PySem PySem.W PyProof.Rows
namespace Mine
section
variable {prog : Program} {w : World} {A : Around} {s : Shared} {env : Env} {Q E : Value → Shared → Prop}
theorem wp_SliceAny {value : PySem.Expr} {lower upper : Option PySem.Expr} {p pos : Pos}
  (h : wpAny (model prog w) A (eval value env) (fun o s₁ => wpAny (model prog w) A (evalPart lower env) (fun vl s₂ => wpAny (model prog w) A (evalPart upper env) (fun vu s₃ =>
   ∃ T id, typeLookup (.type T) "__getitem__" = pure (some (.builtin id)) ∧ Shared.TypeIs { s₃ with heap := s₃.heap.push { cls := .type "slice", data := .fields #[vl, vu, .none] } } o T ∧
    wpAny (model prog w) A (getItem o (.ref s₃.heap.objs.size)) Q E { s₃ with heap := s₃.heap.push { cls := .type "slice", data := .fields #[vl, vu, .none] } }) E s₂) E s₁) E s) :
  wpAny (model prog w) A (eval (.Subscript value (.Slice lower upper none p) pos) env) Q E s := by
 rw [eval_Subscript]
 refine wpAny_bind (wpAny_mono h (fun o s₁ h₁ => wpAny_bind (wpAny_holding (wpAny_Slice (wpAny_mono h₁ (fun vl s₂ h₂ => wpAny_mono h₂ (fun vu s₃ h₃ => ?_) fun _ _ x => x) fun _ _ x => x)))) fun _ _ x => x)
 rw [evalPart_none]
 refine wpAny_pure ?_
 refine wpAny_bind (wpAny_standAt ?_)
 obtain ⟨T, id, hl, hT, hg⟩ := h₃
 refine wpAny_bind ?_
 rw [getitemInPython_of_ne hT.not_modules]
 refine wpAny_bind (wpAny_specialOf hT hl ?_)
 have fin := fun (i : Value) (hi : wpAny (model prog w) A (getItem o i) Q E { s₃ with heap := s₃.heap.push { cls := .type "slice", data := .fields #[vl, vu, .none] } }) =>
  (wpAny_bind (wpAny_operating (vs := [i, o]) (wpAny_mono hi (fun r s₃ h₃ => wpAny_bind (wpAny_letTemporaryGo (base := value) (o := o) (wpAny_pure h₃))) fun _ _ x => x)) : wpAny (model prog w) A (subscripted (.Slice lower upper none p) false o i >>= fun r => letTemporaryGo value o r >>= fun _ => pure r) Q E _)
 first
  | exact wpAny_pure (fin _ hg)
  | exact fin _ hg
end
noncomputable def cut (n : Nat) (i : Int) : Nat := match i with
 | .ofNat k => min k n
 | .negSucc k => n - (k + 1)
noncomputable def cutL {α : Type} (up : Bool) (i : Int) (l : List α) : List α := cond up (l.take (cut l.length i)) (l.drop (cut l.length i))
theorem cut_clip (n : Nat) (i : Int) : max 0 (min (if i < 0 then i + (n : Int) else i) n) = ((cut n i : Nat) : Int) := by
 cases i with
 | ofNat k =>
  rw [if_neg (show ¬ (Int.ofNat k < 0) from Int.not_lt.mpr (Int.natCast_nonneg k))]
  show max 0 (min (k : Int) n) = ((min k n : Nat) : Int)
  omega
 | negSucc k =>
  rw [if_pos (Int.negSucc_lt_zero k)]
  show _ = ((n - (k + 1) : Nat) : Int)
  omega
theorem cut_le (n : Nat) (i : Int) : cut n i ≤ n := by
 cases i with
 | ofNat k => exact Nat.min_le_right k n
 | negSucc k => exact Nat.sub_le n (k + 1)
theorem cut_up {α : Type} (k : Nat) (l : List α) : cutL true (k : Int) l = l.take k := by
 show l.take (min k l.length) = _
 by_cases h : k ≤ l.length
 ·rw [Nat.min_eq_left h]
 ·rw [Nat.min_eq_right (Nat.le_of_not_le h), List.take_length, List.take_of_length_le (Nat.le_of_not_le h)]
theorem cut_dn {α : Type} (k : Nat) (l : List α) : cutL false (k : Int) l = l.drop k := by
 show l.drop (min k l.length) = _
 by_cases h : k ≤ l.length
 ·rw [Nat.min_eq_left h]
 ·rw [Nat.min_eq_right (Nat.le_of_not_le h), List.drop_length, List.drop_eq_nil_of_le (Nat.le_of_not_le h)]
theorem cut_ng {α : Type} (k : Nat) (l : List α) : cutL false (Int.negSucc k) l = l.drop (l.length - (k + 1)) := rfl
theorem pick_any (items : Array Value) (up : Bool) (i : Int) : slicePick items (cond up none (some i)) (cond up (some i) none) none = (cutL up i items.toList).toArray := by
 cases up with
 | true =>
  have e : sliceBounds none (some i) none items.size = (((0 : Nat) : Int), ((cut items.size i : Nat) : Int), 1) := by
   simp only [sliceBounds, Option.getD_none, show (1 : Int) > 0 by decide, if_true]
   rw [cut_clip]; rfl
  show slicePick items none (some i) none = _
  unfold slicePick
  rw [e]
  simp only [sliceRange_one, pick_run]
  simp [cutL]
 | false =>
  have e : sliceBounds (some i) none none items.size = (((cut items.size i : Nat) : Int), ((items.size : Nat) : Int), 1) := by
   simp only [sliceBounds, Option.getD_none, show (1 : Int) > 0 by decide, if_true]
   rw [cut_clip]
  show slicePick items (some i) none none = _
  unfold slicePick
  rw [e]
  simp only [sliceRange_one, pick_run]
  rw [List.take_of_length_le (by simp)]
  simp [cutL]
theorem S_len (x : List Nat) : (S x).length = x.length := by simp [Str.length]
theorem txt_of (x : List Nat) (l u : Option Int) (a b : Nat) (hb : b ≤ x.length) (e : Builtin.Str.strSliceIndices l u 1 (S x).length = (List.range (b - a)).map (a + ·)) : Txt.slice (S x) l u = S ((x.drop a).take (b - a)) := by
 unfold Txt.slice
 rw [e]
 split
 ·rename_i q
  simp only [beq_self_eq_true, Bool.true_and, List.length_map, List.length_range, beq_iff_eq, S_len] at q
  rcases Nat.eq_zero_or_pos x.length with z | z
  ·have : x = [] := List.eq_nil_of_length_eq_zero z
   subst this; simp
  ·have : a = 0 := by omega
   subst this
   rw [List.drop_zero, List.take_of_length_le (by omega)]
 ·show (⟨_⟩ : Str) = ⟨_⟩
  rw [pick_run]
theorem txt_any (x : List Nat) (up : Bool) (i : Int) : Txt.slice (S x) (cond up none (some i)) (cond up (some i) none) = S (cutL up i x) := by
 cases up with
 | true =>
  show Txt.slice (S x) none (some i) = S (x.take _)
  rw [txt_of x none (some i) 0 (cut x.length i) (cut_le _ _) ?_]
  ·simp
  ·rw [S_len]
   unfold Builtin.Str.strSliceIndices
   simp only [show (1 : Int) > 0 by decide, if_true]
   rw [cut_clip]
   exact sliceRange_one 0 _
 | false =>
  show Txt.slice (S x) (some i) none = S (x.drop _)
  rw [txt_of x (some i) none (cut x.length i) x.length (Nat.le_refl _) ?_]
  ·rw [List.take_of_length_le (by simp)]
  ·rw [S_len]
   unfold Builtin.Str.strSliceIndices
   simp only [show (1 : Int) > 0 by decide, if_true]
   rw [cut_clip, sliceRange_one]
theorem VRs.take {n : Nat} {ρ : Nat → Addr} {a : List AV} {v : List Value} (k : Nat) (h : VRs n ρ a v) : VRs n ρ (a.take k) (v.take k) := by
 induction k generalizing a v with
 | zero => trivial
 | succ k ih => cases a with
  | nil => cases v with
   | nil => trivial
   | cons => exact h.elim
  | cons x a => cases v with
   | nil => exact h.elim
   | cons y v => exact ⟨h.1, ih h.2⟩
theorem VRs.cut {n : Nat} {ρ : Nat → Addr} {a : List AV} {v : List Value} (up : Bool) (i : Int) (h : VRs n ρ a v) : VRs n ρ (cutL up i a) (cutL up i v) := by
 cases up with
 | true => show VRs n ρ (a.take _) (v.take _); rw [h.len]; exact h.take _
 | false => show VRs n ρ (a.drop _) (v.drop _); rw [h.len]; exact h.drop _
noncomputable def slA (up : Bool) (vb : Value) : Array Value := cond up #[.none, vb, .none] #[vb, .none, .none]
noncomputable abbrev slS (s : Shared) (up : Bool) (vb : Value) : Shared := { s with heap := s.heap.push { cls := .type "slice", data := .fields (slA up vb) } }
noncomputable def Sl (c : Cx) (up : Bool) (a b : AV) (T : Hp) (v : AV) (T' : Hp) : Prop :=
 ∀ (A : Around) (s : Shared) (ρ δ : Nat → Addr) (va vb : Value) (Q E : Value → Shared → Prop), HR c ρ δ T T.n s.heap → VR T.n ρ a va → VR T.n ρ b vb → Kv c s ρ δ T T' v Q →
  ∃ Tn id, typeLookup (.type Tn) "__getitem__" = pure (some (.builtin id)) ∧ (slS s up vb).TypeIs va Tn ∧ wpAny (model c.prog c.w) A (getItem va (.ref s.heap.objs.size)) Q E (slS s up vb)
section
variable {c : Cx} {d : Nat} {loc : Loc} {T T1 T2 T3 : Hp} {a b v : AV} {o i : PE} {up : Bool} {r : Nat} {xs ys : List AV} {k : Int} {l m : List Nat} {ao : AO}
theorem R_slice (e1 : Ev c o d loc T a T1) (e2 : Ev c i d loc T1 b T2) (e3 : Sl c up a b T2 v T3) : Ev c (.slice o up i) d loc T v T3 := by
 rintro _ env A s ρ δ Q E ⟨o', i', sp, p, rfl, mo, mi⟩ at' ct
 have k : ∀ ρ1 δ1 h1 t1 va, Go c No ρ δ T.n s.heap ρ1 δ1 T1.n h1 → HR c ρ1 δ1 T1 T1.n h1 → VR T1.n ρ1 a va → wpAny (model c.prog c.w) A (eval i' env) (fun vb s₂ => ∃ Tn id, typeLookup (.type Tn) "__getitem__" = pure (some (.builtin id)) ∧ (slS s₂ up vb).TypeIs va Tn ∧ wpAny (model c.prog c.w) A (getItem va (.ref s₂.heap.objs.size)) Q E (slS s₂ up vb)) E (Sh s h1 t1) :=
  fun ρ1 δ1 h1 t1 va g1 hr1 vr1 => e2 _ env A (Sh s h1 t1) ρ1 δ1 _ E mi (at'.go g1 hr1) fun ρ2 δ2 h2 t2 vb g2 hr2 vr2 => e3 A (Sh s h2 t2) ρ2 δ2 va vb Q E hr2 (g2.vr vr1) vr2 (ct.go (g1.trans g2))
 cases up with
 | true => exact wp_SliceAny (e1 _ env A s ρ δ _ E mo at' fun ρ1 δ1 h1 t1 va g1 hr1 vr1 => wpAny_pure (k ρ1 δ1 h1 t1 va g1 hr1 vr1))
 | false => exact wp_SliceAny (e1 _ env A s ρ δ _ E mo at' fun ρ1 δ1 h1 t1 va g1 hr1 vr1 => wpAny_mono (k ρ1 δ1 h1 t1 va g1 hr1 vr1) (fun _ _ z => wpAny_pure z) fun _ _ z => z)
theorem S_str (q : l.length < 4000) (e : cutL up k l = m) : Sl c up (.str l) (.int k) T (.str m) T := by
 intro A s ρ δ va vb Q E hr ra rb ct
 obtain ⟨t, rfl⟩ := ra
 obtain ⟨ti, rfl⟩ := rb
 have kp : ∀ ob b o, s.heap.get? b = some o → (s.heap.push ob).get? b = some o := fun ob b o e => Heap.get?_push_of_some _ e
 have hz : (S l).length ≤ sizeLine := by rw [S_len]; exact szl q
 refine ⟨"str", _, PySem.F.slot_str_getitem.lookup, typeIs_str _ _ _, ?_⟩
 have e := e ▸ txt_any l up k
 cases up with
 | true =>
  refine wpAny_getItem_str_slice (l := none) (u := some (k, ti)) (st := none) ⟨_, Heap.get?_push_size _ rfl, rfl, rfl⟩ rfl (post_val_or_str ⟨Nat.le_trans (Txt.slice_le (S l) none (some k)) hz, fun t' k => ?_⟩)
  exact ct ρ δ _ k _ (Go.of_keeps (kp _)) (hr.of_keeps (kp _)) ⟨t', congrArg (Value.str · t') e⟩
 | false =>
  refine wpAny_getItem_str_slice (l := some (k, ti)) (u := none) (st := none) ⟨_, Heap.get?_push_size _ rfl, rfl, rfl⟩ rfl (post_val_or_str ⟨Nat.le_trans (Txt.slice_le (S l) (some k) none) hz, fun t' k => ?_⟩)
  exact ct ρ δ _ k _ (Go.of_keeps (kp _)) (hr.of_keeps (kp _)) ⟨t', congrArg (Value.str · t') e⟩
theorem Kv.far {s : Shared} {ρ δ : Nat → Addr} {Q : Value → Shared → Prop} {ob1 ob2 : Obj} {t : Nat} (ct : Kv c s ρ δ T (hnew T ao) (.ref T.n) Q) (hr : HR c ρ δ T T.n s.heap) (hf : ob2.isFreed = false)
  (or : OR c (T.n + 1) (ext ρ T.n (s.heap.push ob1).objs.size) ((s.heap.push ob1).push ob2) (s.heap.push ob1).objs.size (s.heap.push ob1).objs.size ao) : Q (.ref (s.heap.push ob1).objs.size) (Sh s ((s.heap.push ob1).push ob2) t) := by
 have dead : s.heap.get? (s.heap.push ob1).objs.size = none := dead_end _ (by rw [Heap.size_push]; exact Nat.le_succ _)
 have lv : Live ((s.heap.push ob1).push ob2) (s.heap.push ob1).objs.size := ⟨_, Heap.get?_push_size _ hf⟩
 obtain ⟨r1, g1⟩ := hr.grow (X := No) (get_hnew T ao) dead dead lv lv (fun b o e => Heap.get?_push_of_some _ (Heap.get?_push_of_some _ e)) or
 exact ct _ _ _ t _ g1 r1 ⟨Nat.lt_succ_self _, by rw [ext_at]⟩
theorem S_list (ho : T.get r = some (.list xs)) (q : xs.length < 4000) (e : cutL up k xs = ys) : Sl c up (.ref r) (.int k) T (.ref T.n) (hnew T (.list ys)) := by
 intro A s ρ δ va vb Q E hr ra rb ct
 obtain ⟨ti, rfl⟩ := rb
 obtain ⟨lt, vals, kk, h1, h2⟩ := hr.obj _ _ ho
 have hl : s.heap.IsList (ρ r) vals.toArray := ⟨_, h1, rfl, kk, rfl⟩
 rw [h2.len] at q
 have hz : vals.toArray.size ≤ sizeLine := by rw [List.size_toArray]; exact szl (by first | assumption | omega)
 have hc := e ▸ h2.cut up k
 have e' := pick_any vals.toArray up k
 rw [ra.2]
 refine ⟨"list", _, list_getitem_lookup, (hl.push _).typeIs, ?_⟩
 cases up with
 | true =>
  refine wpAny_getItem_list_slice (hl.push _) (Heap.IsSliceOf.new ..) .none (.int k ti) .none (by simp) ?_ hz
  dsimp only
  rw [show slicePick vals.toArray none (some k) none = _ from e']
  exact ct.far (s := s) (t := s.toks) hr rfl ⟨_, 0, Heap.get?_push_size _ rfl, ext_vrs hc⟩
 | false =>
  refine wpAny_getItem_list_slice (hl.push _) (Heap.IsSliceOf.new ..) (.int k ti) .none .none (by simp) ?_ hz
  dsimp only
  rw [show slicePick vals.toArray (some k) none none = _ from e']
  exact ct.far (s := s) (t := s.toks) hr rfl ⟨_, 0, Heap.get?_push_size _ rfl, ext_vrs hc⟩
theorem S_tuple {k : Nat} (ho : T.get r = some (.tuple xs)) (q : xs.length < 4000) (q0 : 1 ≤ k) (q1 : k ≤ xs.length) : Sl c false (.ref r) (.int (k : Int)) T (.ref T.n) (hnew T (.tuple (xs.drop k))) := by
 intro A s ρ δ va vb Q E hr ra rb ct
 obtain ⟨ti, rfl⟩ := rb
 obtain ⟨lt, vals, kk, h1, h2⟩ := hr.obj _ _ ho
 rw [h2.len] at q q1
 have hz : vals.toArray.size ≤ sizeLine := by rw [List.size_toArray]; exact szl (by first | assumption | omega)
 have ht : ∀ ob, IsTup (s.heap.push ob) (ρ r) vals.toArray := fun ob => ⟨_, Heap.get?_push_of_some _ h1, rfl, kk, rfl⟩
 rw [ra.2]
 refine ⟨"tuple", _, F.slot_tuple_getitem.lookup, ⟨_, Heap.get?_push_of_some _ h1, rfl⟩, ?_⟩
 refine getItem_tuple_from (a := k) (u := ti) (ht _) (Heap.IsSliceOf.new ..) (by omega) (by simpa using q1) ?_ hz
 refine ct.far (s := s) (t := s.toks) hr rfl ⟨_, 0, Heap.get?_push_size _ rfl, ?_⟩
 have := h2.drop k
 simpa using ext_vrs this
end
end Mine
end
section
open PySem PySem.W PyProof.Rows
namespace Mine
section
variable {c : Cx} {T : Hp} {x y : Int} {l m : List Nat} {k r r' : Nat} {xs ys : List AV}
theorem B_addI : Bi c .add (.int x) (.int y) T (.int (x + y)) T := by
 rintro A s ρ δ _ _ Q E hr ⟨t, rfl⟩ ⟨u, rfl⟩ ct
 exact P.add_int (ct ρ δ s.heap _ _ Go.refl hr ⟨_, rfl⟩)
theorem B_subI : Bi c .sub (.int x) (.int y) T (.int (x - y)) T := by
 rintro A s ρ δ _ _ Q E hr ⟨t, rfl⟩ ⟨u, rfl⟩ ct
 exact P.sub_int (ct ρ δ s.heap _ _ Go.refl hr ⟨_, rfl⟩)
theorem B_mulI (h1 : -1000000 < x) (h2 : x < 1000000) : Bi c .mul (.int x) (.int y) T (.int (x * y)) T := by
 rintro A s ρ δ _ _ Q E hr ⟨t, rfl⟩ ⟨u, rfl⟩ ct
 exact P.mul_int (ct ρ δ s.heap _ _ Go.refl hr ⟨_, rfl⟩) (IntMulOk.of_left (intBits_le_64 (by omega) (by omega)))
theorem B_modI (h1 : 0 < y) : Bi c .mod (.int x) (.int y) T (.int (Int.fmod x y)) T := by
 rintro A s ρ δ _ _ Q E hr ⟨t, rfl⟩ ⟨u, rfl⟩ ct
 exact mod_int' (by omega) (ct ρ δ s.heap _ _ Go.refl hr ⟨_, rfl⟩)
theorem B_divI (h1 : 0 < y) (h2 : y < 1000000) : Bi c .fdiv (.int x) (.int y) T (.int (Int.fdiv x y)) T := by
 rintro A s ρ δ _ _ Q E hr ⟨t, rfl⟩ ⟨u, rfl⟩ ct
 exact floordiv_int (by omega) (ct ρ δ s.heap _ _ Go.refl hr ⟨_, rfl⟩) (.inl (PyProof.noPylong_small (by omega)))
theorem B_addS (h : l.length + m.length < 4000) : Bi c .add (.str l) (.str m) T (.str (l ++ m)) T := by
 rintro A s ρ δ _ _ Q E hr ⟨t, rfl⟩ ⟨u, rfl⟩ ct
 refine PyProof.Rows.add_str (fun t' tk => ct ρ δ s.heap tk _ Go.refl hr ⟨t', ?_⟩) ?_
 ·show Value.str (⟨l.toArray ++ m.toArray⟩ : Str) t' = Value.str ⟨(l ++ m).toArray⟩ t'
  rw [List.append_toArray]
 ·rw [S_len, S_len]; exact szl h
theorem mul_eq (a k : Nat) : Txt.mul (S [a]) (k : Int) = S (List.replicate k a) := by
 unfold Txt.mul
 split
 ·rename_i h
  have : k = 0 := by omega
  subst this; rfl
 ·split
  ·rename_i h1 h2
   rcases Bool.or_eq_true_iff.mp h2 with h | h
   ·have : k = 1 := by have := beq_iff_eq.mp h; omega
    subst this; rfl
   ·cases h
  ·have : ∀ (m : Nat) (acc : List Nat), (List.replicate m #[a]).foldl (· ++ ·) acc.toArray = (acc ++ List.replicate m a).toArray := by
    intro m
    induction m with
    | zero => intro acc; rw [show List.replicate 0 a = [] from rfl, List.append_nil]; rfl
    | succ m ih => intro acc; rw [List.replicate_succ, List.foldl_cons, List.append_toArray, ih, List.replicate_succ, List.append_assoc]; rfl
   exact congrArg Str.mk (this k [])
theorem B_mulS {a : Nat} (h2 : k ≤ 40) (e : x = (k : Int)) : Bi c .mul (.str [a]) (.int x) T (.str (List.replicate k a)) T := by
 subst e
 rintro A s ρ δ _ _ Q E hr ⟨t, rfl⟩ ⟨u, rfl⟩ ct
 refine SB.mul ⟨?_, ?_, ?_⟩ fun t' tk => ct ρ δ s.heap tk _ Go.refl hr ⟨t', by rw [mul_eq]⟩
 ·simp only [Bool.or_eq_false_iff, decide_eq_false_iff_not]; omega
 ·intro h1 _
  have : (40 : Int) ≤ (2 ^ 63 - 1) / (k : Int) := by
   rw [Int.le_ediv_iff_mul_le (by omega)]; omega
  rw [S_len]
  simp only [List.length_singleton]
  omega
 ·intro _ _
  rw [S_len]
  unfold Builtin.Str.tooLong
  simp only [sizeLine_eq, decide_eq_false_iff_not, List.length_singleton]
  omega
theorem B_addL (h1 : T.get r = some (.list xs)) (h2 : T.get r' = some (.list ys)) (h : xs.length + ys.length < 4000) : Bi c .add (.ref r) (.ref r') T (.ref T.n) (hnew T (.list (xs ++ ys))) := by
 intro A s ρ δ va vb Q E hr ra rb ct
 obtain ⟨_, vs, k1, q1, w1⟩ := hr.obj _ _ h1
 obtain ⟨_, us, k2, q2, w2⟩ := hr.obj _ _ h2
 rw [w1.len, w2.len] at h
 rw [ra.2, rb.2]
 refine P.add_list q1 q2 ?_ (by simp only [List.size_toArray]; exact szl h)
 rw [List.append_toArray]
 exact ct.push (t := s.toks) hr rfl ⟨vs ++ us, 0, Heap.get?_push_size _ rfl, ext_vrs (w1.append w2)⟩
theorem B_addT (h1 : T.get r = some (.tuple xs)) (h2 : T.get r' = some (.tuple ys)) (h : xs.length + ys.length < 4000) (n1 : xs ≠ []) (n2 : ys ≠ []) : Bi c .add (.ref r) (.ref r') T (.ref T.n) (hnew T (.tuple (xs ++ ys))) := by
 intro A s ρ δ va vb Q E hr ra rb ct
 obtain ⟨_, vs, k1, q1, w1⟩ := hr.obj _ _ h1
 obtain ⟨_, us, k2, q2, w2⟩ := hr.obj _ _ h2
 rw [w1.len, w2.len] at h
 have ne : ∀ {as : List AV} {bs : List Value}, as ≠ [] → VRs T.n ρ as bs → ¬ bs.toArray.isEmpty = true := fun {as bs} n w z => n (List.eq_nil_of_length_eq_zero (by rw [w.len]; simpa using z))
 rw [ra.2, rb.2]
 refine P.add_tuple q1 q2 (ne n1 w1) (ne n2 w2) ?_ (by simp only [List.size_toArray]; exact szl h)
 rw [List.append_toArray]
 exact ct.push (t := s.toks) hr rfl ⟨vs ++ us, 0, Heap.get?_push_size _ rfl, ext_vrs (w1.append w2)⟩
end
end Mine
end
section
open PySem PySem.W PyProof.Rows
namespace Mine
noncomputable def Ty.eq (a b : Ty) : Bool := decide (a.nm = b.nm)
noncomputable def sq (a b : AV) : Bool := match b with
 | .int y => (match a with | .int x => decide (x = y) | _ => false)
 | .str y => (match a with | .str x => decide (x = y) | _ => false)
 | .typ y => (match a with | .typ x => x.eq y | _ => false)
 | _ => false
noncomputable def kin (a b : AV) : Bool := match b with
 | .int _ => (match a with | .int _ => true | _ => false)
 | .str _ => (match a with | .str _ => true | _ => false)
 | .typ _ => (match a with | .typ _ => true | _ => false)
 | _ => false
theorem kin_cases {P : AV → AV → Prop} {a b : AV} (k : kin a b = true) (h1 : ∀ x y, P (.int x) (.int y)) (h2 : ∀ x y, P (.str x) (.str y)) (h3 : ∀ x y, P (.typ x) (.typ y)) : P a b := by
 cases b with
 | int y => cases a with
  | int x => exact h1 x y
  | _ => cases k
 | str y => cases a with
  | str x => exact h2 x y
  | _ => cases k
 | typ y => cases a with
  | typ x => exact h3 x y
  | _ => cases k
 | _ => cases k
theorem int_b (x y : Int) : decide (x = y) = (x == y) := by rw [Bool.eq_iff_iff, beq_iff_eq, decide_eq_true_eq]
theorem str_b (x y : List Nat) : decide (x = y) = (S x == S y) := by
 rw [Bool.eq_iff_iff, beq_iff_eq, decide_eq_true_eq]
 exact ⟨fun h => by rw [h], fun h => S_inj h⟩
theorem Ty.meta (t : Ty) (s : Shared) : s.TypeIs (.type t.nm) "type" := by
 cases t <;> (show typeOf _ = _; kernel_rfl)
theorem Ty.nm_eq (a b : Ty) : (Value.type a.nm == Value.type b.nm) = a.eq b := by cases a <;> cases b <;> decide +kernel
theorem eqAt_type (a b : Ty) (A : Around) (s : Shared) : SeqAt.EqAt A s (.type a.nm) (.type b.nm) (a.eq b) := by
 cases q : a.eq b with
 | true => rw [of_decide_eq_true q]; exact SeqAt.EqAt.same _
 | false =>
  intro prog w E Q h
  unfold eqBool
  refine wpAny_holding ?_
  refine wpAny_ite_split (fun hab => absurd hab (by rw [Ty.nm_eq, q]; exact Bool.false_ne_true)) (fun _ => ?_)
  exact wpAny_bind (TypeEq.eq_type_other (fun s' => a.meta s') (fun s' => b.meta s') (by rw [Ty.nm_eq, q]) (wpAny_truthy_bool h))
theorem sq_at {n : Nat} {ρ : Nat → Addr} {a b : AV} {va vb : Value} {A : Around} {s : Shared} (k : kin a b = true) : VR n ρ a va → VR n ρ b vb → SeqAt.EqAt A s va vb (sq a b) := by
 refine kin_cases (P := fun a b => VR n ρ a va → VR n ρ b vb → SeqAt.EqAt A s va vb (sq a b)) k ?_ ?_ ?_
 ·rintro x y ⟨_, rfl⟩ ⟨_, rfl⟩
  show SeqAt.EqAt _ _ _ _ (decide _); rw [int_b]; exact SeqAt.EqAt.int_int _ _ _ _
 ·rintro x y ⟨_, rfl⟩ ⟨_, rfl⟩
  show SeqAt.EqAt _ _ _ _ (decide _); rw [str_b]; exact SeqAt.EqAt.str_str _ _ _ _
 ·intro x y ra rb
  rw [ra, rb]; exact eqAt_type _ _ _ _
noncomputable def Eqt (c : Cx) (T : Hp) (f : Nat) (a b : AV) : Prop :=
 ∀ (ρ δ : Nat → Addr) (s : Shared) (A : Around) (va vb : Value), HR c ρ δ T T.n s.heap → A.units + f < cLine → VR T.n ρ a va → VR T.n ρ b vb → SeqAt.EqAt A s va vb true
noncomputable def EqtL (c : Cx) (T : Hp) (f : Nat) (xs ys : List AV) : Prop := xs.length = ys.length ∧ ∀ (j : Nat) (x y : AV), xs[j]? = some x → ys[j]? = some y → Eqt c T f x y
theorem VRs.get {n : Nat} {ρ : Nat → Addr} {a : List AV} {v : List Value} (h : VRs n ρ a v) {i : Nat} (hi : i < v.toArray.size) : ∃ x, a[i]? = some x ∧ VR n ρ x v.toArray[i] := by
 have hl : i < a.length := by rw [h.len]; simpa using hi
 obtain ⟨y, h1, h2⟩ := h.at (List.getElem?_eq_getElem hl)
 refine ⟨_, List.getElem?_eq_getElem hl, ?_⟩
 have : v.toArray[i] = y := by
  have q : i < v.length := by simpa using hi
  rw [List.getElem?_eq_getElem q] at h1
  simpa using Option.some.inj h1
 rw [this]; exact h2
section
variable {c : Cx} {T : Hp} {f : Nat} {a b : AV} {xs ys : List AV} {r r' : Nat} {t : Bool} {es : List (AV × AV)} {ep : Nat}
theorem Eq_same : Eqt c T f a a := by
 intro ρ δ s A va vb hr hu ra rb
 cases a with
 | int i => obtain ⟨t, rfl⟩ := ra; obtain ⟨u, rfl⟩ := rb; have := SeqAt.EqAt.int_int (A := A) (s := s) i t i u; rwa [beq_self_eq_true] at this
 | str l => obtain ⟨t, rfl⟩ := ra; obtain ⟨u, rfl⟩ := rb; have := SeqAt.EqAt.str_str (A := A) (s := s) (S l) t (S l) u; rwa [beq_self_eq_true] at this
 | ref r => rw [ra.2, rb.2]; exact SeqAt.EqAt.same _
 | _ => cases ra; cases rb; exact SeqAt.EqAt.same _
theorem EqL_nil : EqtL c T f [] [] := ⟨rfl, fun j x y h => (by simp at h)⟩
theorem EqL_cons (h1 : Eqt c T f a b) (h2 : EqtL c T f xs ys) : EqtL c T f (a :: xs) (b :: ys) :=
 ⟨congrArg (· + 1) h2.1, fun j x y q1 q2 => by
  cases j with
  | zero => cases q1; cases q2; exact h1
  | succ j => exact h2.2 j x y q1 q2⟩
theorem EqL_same : EqtL c T f xs xs := ⟨rfl, fun j x y q1 q2 => by rw [q1] at q2; cases q2; exact Eq_same⟩
theorem eqts {A : Around} {s : Shared} {ρ δ : Nat → Addr} (q : EqtL c T f xs ys) (o : (T.get r = some (.tuple xs) ∧ T.get r' = some (.tuple ys)) ∨ (T.get r = some (.list xs) ∧ T.get r' = some (.list ys))) (hr : HR c ρ δ T T.n s.heap) (hu : A.units + (f + 1) < cLine) :
  SeqAt.RcAt A s (.ref (ρ r)) (.ref (ρ r')) true ∧ SeqAt.RcNeAt A s (.ref (ρ r)) (.ref (ρ r')) false := by
 have hu1 : A.units < cLine := by omega
 have hu2 : A.in1.units + f < cLine := by have : A.in1.units = A.units + 1 := rfl; omega
 have each : ∀ {vs us : List Value}, VRs T.n ρ xs vs → VRs T.n ρ ys us → ∀ j (h1 : j < vs.toArray.size) (h2 : j < us.toArray.size), SeqAt.EqAt A.in1 s vs.toArray[j] us.toArray[j] true := fun w1 w2 j g1 g2 => by
  obtain ⟨a, q1, r1⟩ := w1.get g1
  obtain ⟨b, q2, r2⟩ := w2.get g2
  exact q.2 j a b q1 q2 ρ δ s _ _ _ hr hu2 r1 r2
 rcases o with ⟨h1, h2⟩ | ⟨h1, h2⟩
 ·obtain ⟨vs, k, p1, w1⟩ := (hr.obj _ _ h1).2
  obtain ⟨us, k', p2, w2⟩ := (hr.obj _ _ h2).2
  have i1 : s.heap.IsTuple (ρ r) vs.toArray := ⟨_, p1, rfl, k, rfl⟩
  have i2 : s.heap.IsTuple (ρ r') us.toArray := ⟨_, p2, rfl, k', rfl⟩
  have e : vs.toArray.size = us.toArray.size := by rw [List.size_toArray, List.size_toArray, ← w1.len, ← w2.len]; exact q.1
  have a1 := SeqAt.RcAt.tuples i1 i2 hu1 (each w1 w2)
  have a2 := SeqAt.RcNeAt.tuples i1 i2 hu1 (each w1 w2)
  rw [show ((List.range (min vs.toArray.size us.toArray.size)).all (fun _ => true) && vs.toArray.size == us.toArray.size) = true by rw [e]; simp] at a1 a2
  exact ⟨a1, a2⟩
 ·obtain ⟨vs, k, p1, w1⟩ := (hr.obj _ _ h1).2
  obtain ⟨us, k', p2, w2⟩ := (hr.obj _ _ h2).2
  have i1 : s.heap.IsList (ρ r) vs.toArray := ⟨_, p1, rfl, k, rfl⟩
  have i2 : s.heap.IsList (ρ r') us.toArray := ⟨_, p2, rfl, k', rfl⟩
  have e : vs.toArray.size = us.toArray.size := by rw [List.size_toArray, List.size_toArray, ← w1.len, ← w2.len]; exact q.1
  have a1 := SeqAt.RcAt.lists i1 i2 e hu1 (each w1 w2)
  have a2 := SeqAt.RcNeAt.lists i1 i2 e hu1 (each w1 w2)
  rw [show (List.range vs.toArray.size).all (fun _ => true) = true by simp] at a1 a2
  exact ⟨a1, a2⟩
theorem Eq_seq (o : (T.get r = some (.tuple xs) ∧ T.get r' = some (.tuple ys)) ∨ (T.get r = some (.list xs) ∧ T.get r' = some (.list ys))) (q : EqtL c T f xs ys) : Eqt c T (f + 1) (.ref r) (.ref r') := by
 intro ρ δ s A va vb hr hu ra rb
 by_cases e : r = r'
 ·subst e; rw [ra.2, rb.2]; exact SeqAt.EqAt.same _
 ·rw [ra.2, rb.2]
  exact SeqAt.EqAt.of_refs (hr.apart r r' ra.1 rb.1 e).1 (eqts q o hr hu).1
theorem units_ok {d : Nat} {A : Around} (ro : Room d A) (h : f < 900) : A.units + (f + 1) < cLine := by have := ro.2.1; unfold cLine; omega
theorem C_eqR (h : f < 900) (o : (T.get r = some (.tuple xs) ∧ T.get r' = some (.tuple ys)) ∨ (T.get r = some (.list xs) ∧ T.get r' = some (.list ys))) (q : EqtL c T f xs ys) : Cm c .eq (.ref r) (.ref r') T true := by
 intro d A s ρ δ va vb Q E hr ro ra rb nx
 rw [ra.2, rb.2]
 exact (eqts q o hr (units_ok ro h)).1 _ _ _ _ (nx s.heap s.toks Go.refl hr)
theorem C_neR (h : f < 900) (o : (T.get r = some (.tuple xs) ∧ T.get r' = some (.tuple ys)) ∨ (T.get r = some (.list xs) ∧ T.get r' = some (.list ys))) (q : EqtL c T f xs ys) : Cm c .ne (.ref r) (.ref r') T false := by
 intro d A s ρ δ va vb Q E hr ro ra rb nx
 rw [ra.2, rb.2]
 exact (eqts q o hr (units_ok ro h)).2 _ _ _ _ (nx s.heap s.toks Go.refl hr)
noncomputable def pq : AV → AV → Option Bool
 | .none, .none => some true
 | .bool a, .bool b => some (decide (a = b))
 | .int a, .int b => some (decide (a = b))
 | .str a, .str b => some (decide (a = b))
 | .none, .int _ => some false
 | .int _, .none => some false
 | .none, .str _ => some false
 | .str _, .none => some false
 | _, _ => none
theorem pq_at {n : Nat} {ρ : Nat → Addr} {va vb : Value} {A : Around} {s : Shared} (e : pq a b = some t) (ra : VR n ρ a va) (rb : VR n ρ b vb) : SeqAt.RcAt A s va vb t ∧ SeqAt.RcNeAt A s va vb (!t) := by
 cases a with
 | none =>
  cases ra
  cases b with
  | none => cases e; cases rb; exact ⟨SeqAt.RcAt.none_none, SeqAt.RcNeAt.none_none⟩
  | int => cases e; obtain ⟨_, rfl⟩ := rb; exact ⟨SeqAt.RcAt.none_int _ _, SeqAt.RcNeAt.none_int _ _⟩
  | str => cases e; obtain ⟨_, rfl⟩ := rb; exact ⟨SeqAt.RcAt.none_str _ _, SeqAt.RcNeAt.none_str _ _⟩
  | _ => cases e
 | bool x =>
  cases ra
  cases b with
  | bool y =>
   cases rb
   have a1 := SeqAt.RcAt.bool_bool (A := A) (s := s) x y
   have a2 := SeqAt.RcNeAt.bool_bool (A := A) (s := s) x y
   cases e
   cases x <;> cases y <;> exact ⟨a1, a2⟩
  | _ => cases e
 | int x =>
  obtain ⟨_, rfl⟩ := ra
  cases b with
  | none => cases e; cases rb; exact ⟨SeqAt.RcAt.int_none _ _, SeqAt.RcNeAt.int_none _ _⟩
  | int y => cases e; obtain ⟨_, rfl⟩ := rb; rw [int_b]; exact ⟨SeqAt.RcAt.int_int _ _ _ _, SeqAt.RcNeAt.int_int _ _ _ _⟩
  | _ => cases e
 | str x =>
  obtain ⟨_, rfl⟩ := ra
  cases b with
  | none => cases e; cases rb; exact ⟨SeqAt.RcAt.str_none _ _, SeqAt.RcNeAt.str_none _ _⟩
  | str y => cases e; obtain ⟨_, rfl⟩ := rb; rw [str_b]; exact ⟨SeqAt.RcAt.str_str _ _ _ _, SeqAt.RcNeAt.str_str _ _ _ _⟩
  | _ => cases e
 | _ => cases e
theorem C_eq (e : pq a b = some t) : Cm c .eq a b T t := by
 intro d A s ρ δ va vb Q E hr ro ra rb nx
 exact (pq_at e ra rb).1 _ _ _ _ (nx s.heap s.toks Go.refl hr)
theorem C_ne (e : pq a b = some t) : Cm c .ne a b T (!t) := by
 intro d A s ρ δ va vb Q E hr ro ra rb nx
 exact (pq_at e ra rb).2 _ _ _ _ (nx s.heap s.toks Go.refl hr)
noncomputable def nn : AV → Bool
 | .none => false
 | .bi _ => false
 | _ => true
theorem nn_at {n : Nat} {ρ : Nat → Addr} {va : Value} (e : nn a = true) (ra : VR n ρ a va) : PySem.plainIs va .none = true ∧ va ≠ .none := by
 cases a with
 | none => cases e
 | bi => cases e
 | int => obtain ⟨_, rfl⟩ := ra; exact ⟨rfl, by intro z; cases z⟩
 | str => obtain ⟨_, rfl⟩ := ra; exact ⟨rfl, by intro z; cases z⟩
 | ref => obtain ⟨_, rfl⟩ := ra; exact ⟨rfl, by intro z; cases z⟩
 | _ => cases ra; exact ⟨rfl, by intro z; cases z⟩
theorem C_is0 : Cm c .is .none .none T true := by
 rintro d A s ρ δ _ _ Q E hr ro rfl rfl nx
 exact wpAny_is_self rfl (nx s.heap s.toks Go.refl hr)
theorem C_isnt0 : Cm c .isnt .none .none T false := by
 rintro d A s ρ δ _ _ Q E hr ro rfl rfl nx
 exact wpAny_isNot_self rfl (nx s.heap s.toks Go.refl hr)
theorem C_is1 (e : nn a = true) : Cm c .is a .none T false := by
 rintro d A s ρ δ va _ Q E hr ro ra rfl nx
 obtain ⟨h1, h2⟩ := nn_at e ra
 exact wpAny_is_other h1 h2 (nx s.heap s.toks Go.refl hr)
theorem C_isnt1 (e : nn a = true) : Cm c .isnt a .none T true := by
 rintro d A s ρ δ va _ Q E hr ro ra rfl nx
 obtain ⟨h1, h2⟩ := nn_at e ra
 exact wpAny_isNot_other h1 h2 (nx s.heap s.toks Go.refl hr)
theorem C_isntT {x y : Ty} : Cm c .isnt (.typ x) (.typ y) T (!x.eq y) := by
 rintro d A s ρ δ _ _ Q E hr ro rfl rfl nx
 exact wpAny_isNot_plain rfl (by rw [Ty.nm_eq]; exact nx s.heap s.toks Go.refl hr)
variable {x y : Int}
theorem C_lt : Cm c .lt (.int x) (.int y) T (decide (x < y)) := by
 rintro d A s ρ δ _ _ Q E hr ro ⟨_, rfl⟩ ⟨_, rfl⟩ nx
 exact P.lt_int (nx s.heap s.toks Go.refl hr)
theorem C_gt : Cm c .gt (.int x) (.int y) T (decide (y < x)) := by
 rintro d A s ρ δ _ _ Q E hr ro ⟨_, rfl⟩ ⟨_, rfl⟩ nx
 exact P.gt_int (nx s.heap s.toks Go.refl hr)
end
noncomputable def eV (va v : Value) : Bool := match va with
 | .str p _ => (match v with | .str q _ => q == p | _ => false)
 | .int p _ => (match v with | .int q _ => q == p | _ => false)
 | _ => v == va
section
variable {c : Cx} {T : Hp} {a b : AV} {xs : List AV} {r : Nat} {t : Bool} {es : List (AV × AV)} {ep : Nat}
theorem eV_sq {n : Nat} {ρ : Nat → Addr} {va vb : Value} (k : kin b a = true) : VR n ρ a va → VR n ρ b vb → eV va vb = sq b a := by
 refine kin_cases (P := fun b a => VR n ρ a va → VR n ρ b vb → eV va vb = sq b a) k ?_ ?_ ?_
 ·rintro x y ⟨_, rfl⟩ ⟨_, rfl⟩
  exact (int_b _ _).symm
 ·rintro x y ⟨_, rfl⟩ ⟨_, rfl⟩
  exact (str_b _ _).symm
 ·intro x y ra rb
  rw [ra, rb]; exact Ty.nm_eq _ _
theorem in_key {n : Nat} {ρ : Nat → Addr} {va : Value} (ra : VR n ρ a va) (xs : List AV) : ∀ vs : List Value, VRs n ρ xs vs → xs.all (kin · a) = true → (∀ y ∈ vs, ∀ A s, SeqAt.EqAt A s y va (eV va y)) ∧ vs.any (eV va) = xs.any (sq · a) := by
 induction xs with
 | nil => intro vs h _; cases vs with
  | nil => exact ⟨fun y hy => (by cases hy), rfl⟩
  | cons => exact h.elim
 | cons x xs ih => intro vs h k; cases vs with
  | nil => exact h.elim
  | cons v vs =>
   rw [List.all_cons, Bool.and_eq_true] at k
   obtain ⟨z1, z2⟩ := ih vs h.2 k.2
   have e := eV_sq k.1 ra h.1
   refine ⟨fun y hy A s => ?_, by rw [List.any_cons, List.any_cons, e, z2]⟩
   cases hy with
   | head => rw [e]; exact sq_at k.1 h.1 ra
   | tail _ hy => exact z1 y hy A s
theorem in_tup {A : Around} {s : Shared} {n k : Nat} {ρ : Nat → Addr} {ad : Addr} {va : Value} {vs : List Value} {E : Value → Shared → Prop} {Q : Value → Shared → Prop} (hk : xs.all (kin · a) = true) (h1 : s.heap.get? ad = some { cls := .type "tuple", data := .seq vs.toArray k }) (h2 : VRs n ρ xs vs) (ra : VR n ρ a va) :
  (Q (.bool (xs.any (sq · a))) s → wpAny (model c.prog c.w) A (compareOp .In va (.ref ad)) Q E s) ∧ (Q (.bool (!xs.any (sq · a))) s → wpAny (model c.prog c.w) A (compareOp .NotIn va (.ref ad)) Q E s) := by
 obtain ⟨z1, z2⟩ := in_key ra _ _ h2 hk
 have hl : s.heap.IsTuple ad vs.toArray := ⟨_, h1, rfl, k, rfl⟩
 have ht : vs.toArray.any (eV va) = xs.any (sq · a) := by rw [← z2]; simp
 rw [← ht]
 exact ⟨fun h => SeqAt.in_tupleAt (eV va) hl (fun y hy => z1 y (by simpa using hy) _ _) h, fun h => SeqAt.notIn_tupleAt (eV va) hl (fun y hy => z1 y (by simpa using hy) _ _) h⟩
theorem in_at {A : Around} {s : Shared} {ρ δ : Nat → Addr} {va vb : Value} {E : Value → Shared → Prop} {Q : Value → Shared → Prop} (o : T.get r = some (.tuple xs) ∨ T.get r = some (.list xs)) (hk : xs.all (kin · a) = true) (hr : HR c ρ δ T T.n s.heap) (ra : VR T.n ρ a va) (rb : VR T.n ρ (.ref r) vb) :
  (Q (.bool (xs.any (sq · a))) s → wpAny (model c.prog c.w) A (compareOp .In va vb) Q E s) ∧ (Q (.bool (!xs.any (sq · a))) s → wpAny (model c.prog c.w) A (compareOp .NotIn va vb) Q E s) := by
 rw [rb.2]
 rcases o with o | o
 ·obtain ⟨vs, k, h1, h2⟩ := (hr.obj _ _ o).2
  exact in_tup hk h1 h2 ra
 ·obtain ⟨vs, k, h1, h2⟩ := (hr.obj _ _ o).2
  obtain ⟨z1, z2⟩ := in_key ra _ _ h2 hk
  have hl : s.heap.IsList (ρ r) vs.toArray := ⟨_, h1, rfl, k, rfl⟩
  have ht : vs.toArray.any (eV va) = xs.any (sq · a) := by rw [← z2]; simp
  rw [← ht]
  exact ⟨fun h => SeqAt.in_listAt (eV va) hl (fun y hy => z1 y (by simpa using hy) _ _) h, fun h => SeqAt.notIn_listAt (eV va) hl (fun y hy => z1 y (by simpa using hy) _ _) h⟩
theorem C_ninO (ok : Ok c) {p : Nat} (h : lk c.G.top p = some xs) (hk : xs.all (kin · a) = true) : Cm c .notin a (.obj p) T (!xs.any (sq · a)) := by
 intro d A s ρ δ va vb Q E hr ro ra rb nx
 obtain ⟨vs, k, q1, w1⟩ := ok.top _ _ h
 cases rb
 exact (in_tup hk (hr.base _ _ q1) (w1.up (Nat.zero_le _) fun i q => absurd q (Nat.not_lt_zero i)) ra).2 (nx s.heap s.toks Go.refl hr)
theorem C_in (o : T.get r = some (.tuple xs) ∨ T.get r = some (.list xs)) (hk : xs.all (kin · a) = true) : Cm c .isin a (.ref r) T (xs.any (sq · a)) := by
 intro d A s ρ δ va vb Q E hr ro ra rb nx
 exact (in_at o hk hr ra rb).1 (nx s.heap s.toks Go.refl hr)
theorem C_nin (o : T.get r = some (.tuple xs) ∨ T.get r = some (.list xs)) (hk : xs.all (kin · a) = true) : Cm c .notin a (.ref r) T (!xs.any (sq · a)) := by
 intro d A s ρ δ va vb Q E hr ro ra rb nx
 exact (in_at o hk hr ra rb).2 (nx s.heap s.toks Go.refl hr)
theorem inD_at {A : Around} {s : Shared} {ρ δ : Nat → Addr} {va vb : Value} {E : Value → Shared → Prop} {Q : Value → Shared → Prop} (o : T.get r = some (.dict es ep)) (hk : kOk a es = true) (hr : HR c ρ δ T T.n s.heap) (ra : VR T.n ρ a va) (rb : VR T.n ρ (.ref r) vb) :
  ((∀ t', Q (.bool (dlk a es).isSome) (Sh s s.heap t')) → wpAny (model c.prog c.w) A (compareOp .In va vb) Q E s) ∧ ((∀ t', Q (.bool (!(dlk a es).isSome)) (Sh s s.heap t')) → wpAny (model c.prog c.w) A (compareOp .NotIn va vb) Q E s) := by
 rw [rb.2]
 have hor := (hr.obj _ _ o).2
 refine DR.key hor hk ra fun {K _ knd is} kk {kvs b} hd hk hb hkey back => ?_
 have L := KR.look kk hb hk
 have hs : (dlk a es).isSome = (valueAt kvs b).isSome := by
  cases q : dlk a es with
  | none => rw [L.2 q]; rfl
  | some y => obtain ⟨u, w, _⟩ := L.1 y q; rw [w]; rfl
 rw [hs]
 exact ⟨fun h => wpAny_in_of hkey hor.1 hd.dictOf.mapOf (h _), fun h => wpAny_notIn_of hkey hor.1 hd.dictOf.mapOf (h _)⟩
theorem C_inD (o : T.get r = some (.dict es ep)) (hk : kOk a es = true) : Cm c .isin a (.ref r) T (dlk a es).isSome := by
 intro d A s ρ δ va vb Q E hr ro ra rb nx
 exact (inD_at o hk hr ra rb).1 fun t' => nx s.heap t' Go.refl hr
theorem C_ninD (o : T.get r = some (.dict es ep)) (hk : kOk a es = true) : Cm c .notin a (.ref r) T (!(dlk a es).isSome) := by
 intro d A s ρ δ va vb Q E hr ro ra rb nx
 exact (inD_at o hk hr ra rb).2 fun t' => nx s.heap t' Go.refl hr
theorem C_inS {x : Nat} {l : List Nat} : Cm c .isin (.str [x]) (.str l) T (l.contains x) := by
 rintro d A s ρ δ _ _ Q E hr ro ⟨_, rfl⟩ ⟨_, rfl⟩ nx
 refine P.in_str ?_
 rw [show (!(Builtin.Str.occurrences (S l) (S [x]) 0 (S l).length 1).isEmpty) = l.contains x from (StrLaws.found_one (S l) x).trans (by simp)]
 exact nx s.heap s.toks Go.refl hr
end
end Mine
end
section
open PySem PySem.W PyProof.Rows
open PySem.Spec (ltCps)
namespace Mine
section
variable {n : Nat} {ρ : Nat → Addr}
theorem vr1 {a : AV} {vals : List Value} (h : VRs n ρ [a] vals) : ∃ v, vals = [v] ∧ VR n ρ a v := by
 cases vals with
 | nil => exact h.elim
 | cons v r => cases r with
  | nil => exact ⟨v, rfl, h.1⟩
  | cons => exact h.2.elim
theorem vr2 {a b : AV} {vals : List Value} (h : VRs n ρ [a, b] vals) : ∃ v u, vals = [v, u] ∧ VR n ρ a v ∧ VR n ρ b u := by
 cases vals with
 | nil => exact h.elim
 | cons v r =>
  obtain ⟨u, rfl, q⟩ := vr1 h.2
  exact ⟨v, u, rfl, h.1, q⟩
theorem of_ints {l : List Int} {vs : List Value} (h : IntsAre vs l) : VRs n ρ (l.map .int) vs := by
 induction h with
 | nil => trivial
 | cons i t h ih => exact ⟨⟨t, rfl⟩, ih⟩
theorem of_strs {l : List (List Nat)} : ∀ {vs : List Value}, StrsAre vs (l.map S) → VRs n ρ (l.map .str) vs := by
 induction l with
 | nil => intro vs h; cases h; trivial
 | cons x l ih => intro vs h; cases h with | cons y t h => exact ⟨⟨t, rfl⟩, ih h⟩
theorem ints_of {l : List Int} : ∀ {vs : List Value}, VRs n ρ (l.map .int) vs → IntsAre vs l := by
 induction l with
 | nil => intro vs h; cases vs with
  | nil => exact .nil
  | cons => exact h.elim
 | cons x l ih => intro vs h; cases vs with
  | nil => exact h.elim
  | cons v vs => obtain ⟨⟨t, rfl⟩, h⟩ := h; exact .cons x t (ih h)
theorem strs_of {l : List (List Nat)} : ∀ {vs : List Value}, VRs n ρ (l.map .str) vs → StrsAre vs (l.map S) := by
 induction l with
 | nil => intro vs h; cases vs with
  | nil => exact .nil
  | cons => exact h.elim
 | cons x l ih => intro vs h; cases vs with
  | nil => exact h.elim
  | cons v vs => obtain ⟨⟨t, rfl⟩, h⟩ := h; exact .cons (S x) t (ih h)
end
structure Tot {α : Type} (lt : α → α → Bool) : Prop where
 tr : ∀ {a b c}, lt b a = false → lt c b = false → lt c a = false
 anti : ∀ {a b}, lt a b = false → lt b a = false → a = b
noncomputable def Srt {α : Type} (lt : α → α → Bool) (l : List α) : Prop := l.Pairwise (fun a b => lt b a = false)
theorem sorted_unique {α : Type} {lt : α → α → Bool} (h : Tot lt) {a b : List α} (p : a.Perm b) (h1 : Srt lt a) (h2 : Srt lt b) : a = b := by
 induction a generalizing b with
 | nil => rw [List.nil_perm.mp p]
 | cons x a ih => cases b with
  | nil => exact absurd p.length_eq (by simp)
  | cons y b =>
   unfold Srt at h1 h2
   rw [List.pairwise_cons] at h1 h2
   have e : x = y := by
    rcases List.mem_cons.mp (p.mem_iff.mp (.head _)) with e | hx
    ·exact e
    ·rcases List.mem_cons.mp (p.mem_iff.mpr (.head _)) with e | hy
     ·exact e.symm
     ·exact h.anti (h2.1 x hx) (h1.1 y hy)
   subst e
   rw [ih (List.Perm.cons_inv p) h1.2 h2.2]
noncomputable def ilt (a b : Int) : Bool := decide (a < b)
noncomputable def slt (a b : List Nat) : Bool := decide (a < b)
theorem totI : Tot ilt := ⟨fun {a b c} h1 h2 => by unfold ilt at *; simp only [decide_eq_false_iff_not] at *; omega, fun {a b} h1 h2 => by unfold ilt at *; simp only [decide_eq_false_iff_not] at *; omega⟩
theorem totS : Tot slt := by
 refine ⟨fun {a b c} h1 h2 => ?_, fun {a b} h1 h2 => ?_⟩
 ·unfold slt at *; simp only [decide_eq_false_iff_not] at *
  exact List.not_lt.mpr (List.le_trans (List.not_lt.mp h1) (List.not_lt.mp h2))
 ·unfold slt at *; simp only [decide_eq_false_iff_not] at *
  exact List.le_antisymm (List.not_lt.mp h2) (List.not_lt.mp h1)
theorem sortedS_of {l : List Str} (h : sortedS l = true) : Srt slt (l.map (·.cps.toList)) := by
 have key : ∀ (l : List Str) (p : Str), risingS p l = true → Srt slt ((p :: l).map (·.cps.toList)) := by
  intro l
  induction l with
  | nil => intro p _; exact List.pairwise_singleton _ _
  | cons x r ih =>
   intro p h
   have h1 : ltCps x.cps.toList p.cps.toList = false ∧ risingS x r = true := by
    unfold risingS at h
    simpa using h
   have i := ih x h1.2
   rw [ltCps_eq] at h1
   refine List.pairwise_cons.mpr ⟨fun z hz => ?_, i⟩
   rcases List.mem_cons.mp hz with rfl | hz
   ·exact h1.1
   ·exact totS.tr h1.1 ((List.pairwise_cons.mp i).1 z hz)
 cases l with
 | nil => exact .nil
 | cons x r => exact key r x h
section
variable {prog : Program} {w : World} {A : Around} {E : Value → Shared → Prop} {s : Shared}
theorem sorted_of {r : Addr} {vals0 : List Value → Prop} {O : List Value → Prop} {Q : Value → Shared → Prop}
  (hc : ∀ {R : List Value → Shared → Prop}, (∀ h' tk vals, (∀ b o, s.heap.get? b = some o → h'.get? b = some o) → vals0 vals → R vals { s with heap := h', toks := tk }) → wpAny (model prog w) A.in1 (collect (.ref r)) R E s)
  (hlen : ∀ vals, vals0 vals → vals.length < 64)
  (hs : ∀ {vals : List Value} {s' : Shared} {a : Addr} {A' : Around} {E' : Value → Shared → Prop} {Q' : Fin → Shared → Prop}, vals0 vals → s'.heap.get? a = some (seqObj "list" vals.toArray 0) → (∀ out : Array Value, O out.toList → Q' (.done (.ret .none)) { s' with heap := sortedHeap s'.heap a vals out }) → wpAny (model prog w) A' (Builtin.«list.sort» ⟨[.ref a], []⟩) Q' E' s')
  (h : ∀ h' tk a (out : List Value) k, (∀ b o, s.heap.get? b = some o → h'.get? b = some o) → s.heap.get? a = none → h'.get? a = some (listOf out.toArray k) → O out → Q (.ref a) { s with heap := h', toks := tk }) :
  wpAny (model prog w) A (call (.builtin "sorted") [.ref r]) Q E s := by
 refine Calls.call_function_entry kind_sorted plain_sorted entry_sorted (args_sorted1 _) ?_
 unfold Builtin.«sorted»
 refine wpAny_bind (m := checkCount "sorted" 1 1 _) (wpAny_pure ?_)
 refine wpAny_bind (hc fun h' tk vals hk hv => ?_)
 have l64 := hlen vals hv
 refine wpAny_bind (wpAny_newList ?_ (by rw [sizeLine_eq]; omega))
 have ho : (h'.push (seqObj "list" vals.toArray 0)).get? h'.objs.size = some (seqObj "list" vals.toArray 0) := Heap.get?_push_size _ rfl
 refine wpAny_bind (wpAny_holding (wpAny_call_entry slot_list_sort ⟨_, ho, rfl⟩ entry_list_sort (hs (s' := { s with heap := h'.push (seqObj "list" vals.toArray 0), toks := tk }) hv ho fun out hO => ⟨_, rfl, ?_⟩) (args_list_sort _)))
 refine wpAny_pure ⟨_, rfl, ?_⟩
 obtain ⟨k, hk2⟩ := sortedHeap_at (out := out) ho
 refine h _ tk _ out.toList k (fun b o e => ?_) ?_ hk2 hO
 ·have lt := Heap.lt_size (hk b o e)
  rw [sortedHeap_old (Nat.ne_of_lt lt) (by rw [Heap.size_push]; exact Nat.lt_succ_of_lt lt)]
  exact Heap.get?_push_of_some _ (hk b o e)
 ·cases q : s.heap.get? h'.objs.size with
  | none => rfl
  | some o => exact absurd (Heap.lt_size (hk _ _ q)) (Nat.lt_irrefl _)
end
noncomputable def Its (c : Cx) (T : Hp) (r : Nat) (xs : List AV) : Prop :=
 ∀ (A : Around) (s : Shared) (ρ δ : Nat → Addr) (E : Value → Shared → Prop) (R : List Value → Shared → Prop), HR c ρ δ T T.n s.heap → A.handled = none →
  (∀ h' tk vals, (∀ b o, s.heap.get? b = some o → h'.get? b = some o) → VRs T.n ρ xs vals → R vals { s with heap := h', toks := tk }) → wpAny (model c.prog c.w) A (collect (.ref (ρ r))) R E s
section
variable {c : Cx} {T : Hp} {r ep d : Nat} {xs : List AV} {es : List (AV × AV)}
theorem Its_list (ho : T.get r = some (.list xs)) (hl : xs.length < 64) : Its c T r xs := by
 intro A s ρ δ E R hr _ nx
 obtain ⟨vs, k, h1, h2⟩ := (hr.obj _ _ ho).2
 refine collect_list (vs := vs) ⟨_, h1, rfl, k, rfl⟩ (nx _ s.toks vs (fun b o e => ?_) h2) (by rw [← h2.len]; exact szl (Nat.lt_trans hl (by decide)))
 rw [Heap.get?_update_other _ _ (Ne.symm (Nat.ne_of_lt (Heap.lt_size e)))]
 exact Heap.get?_push_of_some _ e
theorem keys_at {K : Type} {n : Nat} {ρ : Nat → Addr} {is : AV → K → Prop} {P : K → Value → Prop} (hi : ∀ {x : AV} {k : K} {key : Value}, is x k → P k key → VR n ρ x key) : ∀ {es : List (AV × AV)} {kvs : List (K × Value)} {l : List Value}, KR n ρ is es kvs → l.length = kvs.length → (∀ (i : Nat) (v : Value), l[i]? = some v → ∃ k x, kvs[i]? = some (k, x) ∧ P k v) → VRs n ρ (es.map (·.1)) l := by
 intro es
 induction es with
 | nil =>
  intro kvs l h1 h2 h3
  cases kvs with
  | cons => exact h1.elim
  | nil => cases l with
   | nil => trivial
   | cons => cases h2
 | cons e es ih =>
  intro kvs l h1 h2 h3
  cases kvs with
  | nil => exact h1.elim
  | cons q kvs => cases l with
   | nil => cases h2
   | cons u l =>
    obtain ⟨k', x', w1, w2⟩ := h3 0 u rfl
    cases w1
    exact ⟨hi h1.1 w2, ih h1.2.2 (Nat.succ.inj h2) fun i v' hv' => h3 (i + 1) v' hv'⟩
theorem Its_dict (ho : T.get r = some (.dict es ep)) (hl : es.length < 64) : Its c T r (es.map (·.1)) := by
 intro A s ρ δ E R hr hh nx
 have dr := (hr.obj _ _ ho).2
 obtain ⟨sy, ⟨kvs, h1, h2⟩ | ⟨kvs, h1, h2⟩⟩ := dr
 ·refine kdu_collect (kdl_dict (knd := strKind c.prog c.w) (kvs := kvs) (ep := ep) sy) hh h1 (by rw [← h2.len]; exact szl (Nat.lt_trans hl (by decide))) fun h' tk acc hkp hacc => nx h' tk acc.toList hkp ?_
  exact keys_at (P := fun k v => (strKind c.prog c.w).is k v = true) (fun hx hk => isS_of hx hk _ ρ) h2 (by rw [Array.length_toList]; exact hacc.1) fun i v hv => hacc.2 i v (by rw [← Array.getElem?_toList]; exact hv)
 ·refine kdu_collect (kdl_dict (knd := intKind c.prog c.w) (kvs := kvs) (ep := ep) sy) hh h1 (by rw [← h2.len]; exact szl (Nat.lt_trans hl (by decide))) fun h' tk acc hkp hacc => nx h' tk acc.toList hkp ?_
  exact keys_at (P := fun k v => (intKind c.prog c.w).is k v = true) (fun hx hk => isI_of hx hk _ ρ) h2 (by rw [Array.length_toList]; exact hacc.1) fun i v hv => hacc.2 i v (by rw [← Array.getElem?_toList]; exact hv)
theorem Kv.late {s : Shared} {ρ δ : Nat → Addr} {Q : Value → Shared → Prop} {h' : Heap} {t : Nat} {a : Addr} {ao : AO} (ct : Kv c s ρ δ T (hnew T ao) (.ref T.n) Q) (hr : HR c ρ δ T T.n s.heap) (k : ∀ b o, s.heap.get? b = some o → h'.get? b = some o) (dead : s.heap.get? a = none) (lv : Live h' a) (or : OR c (T.n + 1) (ext ρ T.n a) h' a a ao) : Q (.ref a) (Sh s h' t) := by
 obtain ⟨r1, g1⟩ := hr.grow (X := No) (get_hnew T ao) dead dead lv lv k or
 exact ct _ _ _ t _ g1 r1 ⟨Nat.lt_succ_self _, by rw [ext_at]⟩
theorem B_sortI {l m : List Int} (hi : Its c T r (l.map .int)) (hl : l.length < 64) (p : m.Perm l) (so : Srt ilt m) : Bc c (.bi .sorted) [.ref r] d T (.ref T.n) (hnew T (.list (m.map .int))) := by
 intro A s ρ δ fv vals Q E rf va hr ro ct
 obtain ⟨v, rfl, ra⟩ := vr1 va
 rw [ra.2, rf]
 refine sorted_of (vals0 := fun vals => VRs T.n ρ (l.map .int) vals) (O := fun out => VRs T.n ρ (m.map .int) out) (fun nx => hi _ s ρ δ E _ hr ro.2.2 nx) (fun vals hv => by rw [← hv.len, List.length_map]; exact hl) (fun {vals s' a A' E' Q'} hv ho nx => ?_) fun h' tk a out k kp dead ho hO => ct.late hr kp dead ⟨_, ho⟩ ⟨out, k, ho, ext_vrs hO⟩
 refine list_sort_tree ho (ints_of hv) (by rw [← hv.len, List.length_map]; exact hl) fun out ns' a1 a2 a3 => nx out ?_
 have : ns' = m := sorted_unique totI (a2.trans p.symm) (a3.imp fun h => by unfold ilt; simpa using h) so
 rw [← this]
 exact of_ints a1
theorem B_sortS {l m : List (List Nat)} (hi : Its c T r (l.map .str)) (hl : l.length < 64) (p : m.Perm l) (so : Srt slt m) : Bc c (.bi .sorted) [.ref r] d T (.ref T.n) (hnew T (.list (m.map .str))) := by
 intro A s ρ δ fv vals Q E rf va hr ro ct
 obtain ⟨v, rfl, ra⟩ := vr1 va
 rw [ra.2, rf]
 refine sorted_of (vals0 := fun vals => VRs T.n ρ (l.map .str) vals) (O := fun out => VRs T.n ρ (m.map .str) out) (fun nx => hi _ s ρ δ E _ hr ro.2.2 nx) (fun vals hv => by rw [← hv.len, List.length_map]; exact hl) (fun {vals s' a A' E' Q'} hv ho nx => ?_) fun h' tk a out k kp dead ho hO => ct.late hr kp dead ⟨_, ho⟩ ⟨out, k, ho, ext_vrs hO⟩
 have hS := strs_of hv
 refine list_sort_treeK strKind_oneLt ho hS.keysOf (fun v₁ v₂ rest e => keyKind_strs (by rw [← e]; exact hS)) (by rw [← hv.len, List.length_map]; exact hl) fun st' hp hs => nx _ ?_
 obtain ⟨ss', h1, h2, h3⟩ := sorted_out_str hS hp hs
 have st : ∀ x : Str, S x.cps.toList = x := fun x => rfl
 have es : (ss'.map (·.cps.toList)).map S = ss' := by rw [List.map_map]; exact List.map_id _
 have p2 : (ss'.map (·.cps.toList)).Perm l := by
  have := h2.map (·.cps.toList)
  rwa [List.map_map, show (l.map ((fun x : Str => x.cps.toList) ∘ S)) = l from List.map_id _] at this
 have : ss'.map (·.cps.toList) = m := sorted_unique totS (p2.trans p.symm) (sortedS_of h3) so
 rw [← this]
 rw [← es] at h1
 exact of_strs h1
end
end Mine
end
section
open PySem PySem.W PyProof.Rows
namespace Mine
noncomputable def digits (n : Nat) : List Nat := if n < 10 then [48 + n] else [48 + n / 10, 48 + n % 10]
theorem digits_ok : ∀ i : Fin 100, (Str.ofString (toString ((i.val : Nat) : Int))) = S (digits i.val) := by decide +kernel
noncomputable def ten (k : Nat) : List Nat := [48, 48, 48, 48, 48, 48, 48, 48, 48 + k / 10, 48 + k % 10]
theorem ten_ok : ∀ k : Fin 64, PySem.intText? (S (ten k.val)) = some ((k.val : Nat) : Int) := by decide +kernel
section
variable {prog : Program} {w : World} {A : Around} {E : Value → Shared → Prop} {s : Shared}
theorem keys_tuple : typeLookup (.type "tuple") "keys" = pure none := by rw [typeLookup_type, builtinLookup_eq_fast]; kernel_rfl
set_option maxHeartbeats 4000000 in
theorem getAttrQ_miss_tuple {a : Addr} {xs : Array Value} {k : Nat} {name : Str} {Q : Option Value → Shared → Prop}
  (hx : s.heap.get? a = some { cls := .type "tuple", data := .seq xs k }) (hmiss : typeLookup (.type "tuple") name = pure none) (hname : (["__module__", "__name__", "__qualname__", "__doc__", "__annotations__"] : List Str).contains name = false) (hA : A.handled = none)
  (h : ∀ h' tk, (∀ b o, s.heap.get? b = some o → h'.get? b = some o) → Q none { s with heap := h', toks := tk }) (hsz : name.length + 100 ≤ sizeLine := by size_fits) :
  wpAny (model prog w) A (getAttr? (.ref a) name) Q E s := by
 obtain ⟨hp, g, d, tk, os⟩ := s
 have hT : ∀ tk', (⟨hp, g, d, tk', os⟩ : Shared).TypeIs (.ref a) "tuple" := fun _ => ⟨_, hx, rfl⟩
 have f1 := sub_AttributeError
 have f3 := PySem.F.slot_tuple_getattribute.lookup
 have f4 := PySem.F.slot_tuple_getattribute.bind (.ref a)
 have f5 := am_tuple_getattr_none
 unfold getAttr? getAttrBy? getAttrBy
 repeat (any_goals (first | assumption | exact hT _ | ((with_reducible show wpAny _ _ (call (Value.builtin "tuple.__getattribute__") _ _) _ _ _); refine call_meets PySem.F.slot_tuple_getattribute (hT _) am_entry_tuple_getattribute (PySem.F.args_tuple_getattribute_2 _ _) (meets_getattribute_miss_tuple a xs k #[] name _ hmiss hname hsz) ⟨hx, hA, fun h' tk' e hx' => ?_⟩) | wp_step))
 obtain ⟨t', u', he⟩ := hx'.there
 show wpAny _ _ (getattributeRaised _ _ _ _ _ _ _) _ _ _
 unfold getattributeRaised
 repeat (any_goals (first | assumption | wp_step))
 exact h _ _ hx'.keeps
theorem entry_update_loop : entryFor table "dict.update.loop" = some Builtin.«dict.update.loop» := entryFor_of_tree (by kernel_rfl)
theorem plain_update_loop : plainId "dict.update.loop" = true := by decide +kernel
variable {K : Type} [DecidableEq K] {knd : KeyKind prog w K}
theorem call_dict_pair {o p : Addr} {ok pk : Nat} {k : K} {key v : Value} {Q : Value → Shared → Prop} (hkey : knd.is k key = true) (hA : A.handled = none)
  (ho : s.heap.get? o = some { cls := .type "tuple", data := .seq #[.ref p] ok }) (hp : s.heap.get? p = some { cls := .type "tuple", data := .seq #[key, v] pk })
  (h : ∀ h' tk, (∀ b o, s.heap.get? b = some o → h'.get? b = some o) → h'.DictAt knd s.heap.objs.size [(k, v)] 1 → Q (.ref s.heap.objs.size) { s with heap := h', toks := tk }) :
  wpAny (model prog w) A (call (.type "dict") [.ref o]) Q E s := by
 refine callType_codes (Q₁ := fun obj s₁ => obj = .ref s.heap.objs.size ∧ s₁ = { s with heap := s.heap.push { cls := .type "dict", data := .dict #[] } }) PySem.F.kt_called_dict (PySem.F.kt_typeCall_dict_1 _) PySem.F.entry_dict_init (kt_code_dict_new _ ⟨rfl, rfl⟩) ?_
 rintro obj s₁ ⟨rfl, rfl⟩
 have hnew : (s.heap.push { cls := .type "dict", data := .dict #[] }).DictAt knd s.heap.objs.size [] 0 := ⟨_, #[], Heap.get?_push_size _ rfl, ⟨rfl, rfl, rfl⟩, rfl, fun _ he => by simp at he, Pairs.nil, List.nodup_nil⟩
 have ho' := Heap.get?_push_of_some { cls := .type "dict", data := .dict #[] } ho
 have hp' := Heap.get?_push_of_some { cls := .type "dict", data := .dict #[] } hp
 have hT : Shared.TypeIs { s with heap := s.heap.push { cls := .type "dict", data := .dict #[] } } (.ref o) "tuple" := ⟨_, ho', rfl⟩
 refine ⟨hnew.dictOf.typeIs, PySem.F.args_dict_init_2 _ _, ?_⟩
 unfold Builtin.«dict.__init__»
 refine wpAny_bind ?_
 unfold Builtin.Dict.selfAndRest
 refine wpAny_bind (wpAny_notOrdered_dict hnew.dictOf.typeIs ?_)
 show wpAny _ _ (pure (s.heap.objs.size, [Value.ref o])) _ _ _
 refine wpAny_pure ?_
 show wpAny _ _ (Builtin.Dict.updateFrom "dict.__init__" s.heap.objs.size (.ref o) [] .none) _ _ _
 unfold Builtin.Dict.updateFrom
 refine wpAny_bind (wpAny_typeOf hT ?_)
 rw [if_pos (by decide)]
 refine wpAny_bind (getAttrQ_miss_tuple ho' keys_tuple (by decide +kernel) hA fun h1 tk1 k1 => ?_)
 simp only [Option.isNone_none, if_true]
 refine wpAny_bind (wpAny_rule ?_)
 have ho1 := k1 _ _ ho'
 refine wpAny_bind (wpAny_pyIter_tuple (t := o) (items := #[.ref p]) ⟨_, ho1, rfl, ok, rfl⟩ ?_)
 refine wpAny_pure ⟨plainId_quiet plain_update_loop _, codeAny_builtin entry_update_loop ?_⟩
 rw [Around.under_plainId plain_update_loop _]
 have itr : (h1.push { cls := .type "tuple_iterator", data := .fields #[.ref o, .int 0 0] }).IsTupleIter h1.objs.size o 0 := ⟨_, Heap.get?_push_size _ rfl, rfl, rfl⟩
 have ne : o ≠ h1.objs.size := Nat.ne_of_lt (Heap.lt_size ho1)
 unfold Builtin.«dict.update.loop»
 show wpAny _ _ (pyNext (.ref h1.objs.size) >>= _) _ _ _
 refine wpAny_bind (wpAny_pyNext_tuple_item itr (items := #[.ref p]) (x := .ref p) ⟨_, Heap.get?_push_of_some _ ho1, rfl, ok, rfl⟩ rfl fun h2 it2 sb2 => ?_)
 have k2 : ∀ b ob, h1.get? b = some ob → h2.get? b = some ob := fun b ob e => sb2.extBut b ob (Nat.ne_of_lt (Heap.lt_size e)) (Heap.get?_push_of_some _ e)
 have hp2 := k2 _ _ (k1 _ _ hp')
 have hd2 : h2.DictAt knd s.heap.objs.size [] 0 := hnew.at' fun o e => k2 _ _ (k1 _ _ e)
 dsimp only
 refine wpAny_bind (wpAny_holding ?_)
 refine wpAny_bind (wpAny_tryCatch ?_)
 unfold Builtin.Dict.pairItems
 refine wpAny_bind (wpAny_typeOf (T := "tuple") ⟨_, hp2, rfl⟩ ?_)
 rw [if_pos (by decide)]
 refine wpAny_bind ?_
 unfold seqItems?
 refine wpAny_bind (wpAny_load hp2 ?_)
 refine wpAny_pure (wpAny_pure ?_)
 dsimp only [Option.getD_some]
 refine wpAny_holding (dictSet_at hkey hd2 (Nat.zero_le _) fun h3 hd3 sb3 => ?_)
 have ne2 : h1.objs.size ≠ s.heap.objs.size := Ne.symm (Nat.ne_of_lt (Heap.lt_size (k1 _ _ (Heap.get?_push_size s.heap (o := { cls := .type "dict", data := .dict #[] }) rfl))))
 have it3 : h3.IsTupleIter h1.objs.size o 1 := by obtain ⟨ob, z1, z2⟩ := it2; exact ⟨ob, sb3.extBut _ _ ne2 z1, z2⟩
 have ho3 : h3.get? o = some { cls := .type "tuple", data := .seq #[.ref p] ok } := sb3.extBut _ _ (Nat.ne_of_lt (Heap.lt_size ho)) (k2 _ _ ho1)
 refine wpAny_pure ⟨plainId_quiet plain_update_loop _, codeAny_builtin entry_update_loop ?_⟩
 rw [Around.under_plainId plain_update_loop _]
 unfold Builtin.«dict.update.loop»
 show wpAny _ _ (pyNext (.ref h1.objs.size) >>= _) _ _ _
 refine wpAny_bind (wpAny_pyNext_tuple_end hA it3 (items := #[.ref p]) ⟨_, ho3, rfl, ok, rfl⟩ (by simp) fun h4 eb4 => ?_)
 dsimp only
 refine wpAny_bind (wpAny_pure (wpAny_pure ⟨rfl, ?_⟩))
 refine h h4 _ (fun b ob e => ?_) ?_
 ·have l0 := Heap.lt_size e
  have lb : b < h1.objs.size := Heap.lt_size (k1 _ _ (Heap.get?_push_of_some _ e))
  exact eb4 _ _ (Nat.ne_of_lt lb) (sb3.extBut _ _ (Nat.ne_of_lt l0) (k2 _ _ (k1 _ _ (Heap.get?_push_of_some _ e))))
 ·exact hd3.at' fun ob e => eb4 _ _ (Ne.symm ne2) e
end
section
variable {c : Cx} {T : Hp} {r d : Nat} {xs : List AV} {l : List Nat} {b : Bool} {i : Int}
theorem B_lenS (h : l.length < 4000) : Bc c (.bi .len) [.str l] d T (.int (l.length : Int)) T := by
 intro A s ρ δ fv vals Q E rf va hr ro ct
 obtain ⟨v, rfl, t, rfl⟩ := vr1 va
 rw [rf]
 exact P.len_str (by rw [S_len]; omega) (ct ρ δ s.heap _ _ Go.refl hr ⟨s.toks + 1, by rw [S_len]⟩)
theorem B_lenL (ho : T.get r = some (.list xs)) (h : xs.length < 4000) : Bc c (.bi .len) [.ref r] d T (.int (xs.length : Int)) T := by
 intro A s ρ δ fv vals Q E rf va hr ro ct
 obtain ⟨v, rfl, ra⟩ := vr1 va
 obtain ⟨vs, k, h1, h2⟩ := (hr.obj _ _ ho).2
 rw [ra.2, rf]
 rw [h2.len] at h ct
 exact Calls.call_len_list (items := vs.toArray) ⟨_, h1, rfl, k, rfl⟩ (by rw [List.size_toArray]; omega) (ct ρ δ s.heap _ _ Go.refl hr ⟨s.toks + 1, by rw [List.size_toArray]⟩)
theorem B_lenT (ho : T.get r = some (.tuple xs)) (h : xs.length < 4000) : Bc c (.bi .len) [.ref r] d T (.int (xs.length : Int)) T := by
 intro A s ρ δ fv vals Q E rf va hr ro ct
 obtain ⟨v, rfl, ra⟩ := vr1 va
 obtain ⟨vs, k, h1, h2⟩ := (hr.obj _ _ ho).2
 rw [ra.2, rf]
 rw [h2.len] at h ct
 exact P.len_tuple (items := vs.toArray) h1 (by rw [List.size_toArray]; omega) (ct ρ δ s.heap _ _ Go.refl hr ⟨s.toks + 1, by rw [List.size_toArray]⟩)
theorem B_typeS : Bc c (.typ .type) [.str l] d T (.typ .str) T := by
 intro A s ρ δ fv vals Q E rf va hr ro ct
 obtain ⟨v, rfl, t, rfl⟩ := vr1 va
 rw [rf]
 exact call_type_of (typeIs_str _ _ _) (by decide) (ct ρ δ s.heap _ _ Go.refl hr rfl)
theorem B_typeI : Bc c (.typ .type) [.int i] d T (.typ .int) T := by
 intro A s ρ δ fv vals Q E rf va hr ro ct
 obtain ⟨v, rfl, t, rfl⟩ := vr1 va
 rw [rf]
 exact call_type_of (typeIs_int _ _ _) (by decide) (ct ρ δ s.heap _ _ Go.refl hr rfl)
theorem B_typeT (ho : T.get r = some (.tuple xs)) : Bc c (.typ .type) [.ref r] d T (.typ .tuple) T := by
 intro A s ρ δ fv vals Q E rf va hr ro ct
 obtain ⟨v, rfl, ra⟩ := vr1 va
 obtain ⟨vs, k, h1, h2⟩ := (hr.obj _ _ ho).2
 rw [ra.2, rf]
 exact call_type_of ⟨_, h1, rfl⟩ (by decide) (ct ρ δ s.heap _ _ Go.refl hr rfl)
theorem B_range : Bc c (.typ .range) [.int i] d T (.ref T.n) (hnew T (.range 0 i)) := by
 intro A s ρ δ fv vals Q E rf va hr ro ct
 obtain ⟨v, rfl, t, rfl⟩ := vr1 va
 rw [rf]
 exact call_range_1 (ct.push (t := s.toks + 1 + 1) hr rfl ⟨_, _, _, Heap.get?_push_size _ rfl⟩)
theorem B_strI {k : Nat} (h : k < 100) : Bc c (.typ .str) [.int (k : Int)] d T (.str (digits k)) T := by
 intro A s ρ δ fv vals Q E rf va hr ro ct
 obtain ⟨v, rfl, t, rfl⟩ := vr1 va
 rw [rf]
 refine P.str_of_int (by
  have : k.log2 ≤ k := Nat.log2_le_self k
  simp only [Int.natAbs_natCast]; omega) (ct ρ δ s.heap _ _ Go.refl hr ⟨s.toks, ?_⟩)
 exact congrArg (Value.str · s.toks) (digits_ok ⟨k, h⟩)
theorem B_intS {k : Nat} (h : k < 64) : Bc c (.typ .int) [.str (ten k)] d T (.int (k : Int)) T := by
 intro A s ρ δ fv vals Q E rf va hr ro ct
 obtain ⟨v, rfl, t, rfl⟩ := vr1 va
 rw [rf]
 exact KIN.call_text (ten_ok ⟨k, h⟩) (by rw [S_len]; exact (by decide : 10 ≤ 640)) (ct ρ δ s.heap _ _ Go.refl hr ⟨_, rfl⟩)
theorem B_tupleL (ho : T.get r = some (.list xs)) (h : xs.length < 4000) : Bc c (.typ .tuple) [.ref r] d T (.ref T.n) (hnew T (.tuple xs)) := by
 intro A s ρ δ fv vals Q E rf va hr ro ct
 obtain ⟨v, rfl, ra⟩ := vr1 va
 obtain ⟨vs, k, h1, h2⟩ := (hr.obj _ _ ho).2
 rw [ra.2, rf]
 rw [h2.len] at h
 refine call_tuple_list (items := vs.toArray) ⟨_, h1, rfl, k, rfl⟩ (fun h' kp => ?_) (by rw [List.size_toArray]; exact szl h)
 refine ct.late hr (fun b o e => Heap.get?_push_of_some _ (kp b o e)) ?_ ⟨_, Heap.get?_push_size _ rfl⟩ ⟨vs, 0, Heap.get?_push_size _ rfl, ext_vrs h2⟩
 cases q : s.heap.get? h'.objs.size with
 | none => rfl
 | some o => exact absurd (Heap.lt_size (kp _ _ q)) (Nat.lt_irrefl _)
theorem B_tupleT (ho : T.get r = some (.tuple xs)) : Bc c (.typ .tuple) [.ref r] d T (.ref r) T := by
 intro A s ρ δ fv vals Q E rf va hr ro ct
 obtain ⟨v, rfl, ra⟩ := vr1 va
 obtain ⟨vs, k, h1, h2⟩ := (hr.obj _ _ ho).2
 obtain ⟨lt, rfl⟩ := ra
 rw [rf]
 exact call_tuple_same (items := vs.toArray) ⟨_, h1, rfl, k, rfl⟩ (ct ρ δ s.heap s.toks _ Go.refl hr ⟨lt, rfl⟩)
theorem B_listT (ho : T.get r = some (.tuple xs)) (h : xs.length < 4000) : Bc c (.typ .list) [.ref r] d T (.ref T.n) (hnew T (.list xs)) := by
 intro A s ρ δ fv vals Q E rf va hr ro ct
 obtain ⟨v, rfl, ra⟩ := vr1 va
 obtain ⟨vs, k, h1, h2⟩ := (hr.obj _ _ ho).2
 rw [ra.2, rf]
 rw [h2.len] at h
 refine call_list_seq (ρ r) (.inr rfl) h1 rfl rfl (fun h' k' kp hD => ?_) (by rw [List.size_toArray]; exact szl h)
 exact ct.late (t := s.toks) hr kp (dead_end _ (Nat.le_refl _)) ⟨_, hD⟩ ⟨vs, k', hD, ext_vrs h2⟩
theorem B_bool : Bc c (.typ .bool) [.bool b] d T (.bool b) T := by
 intro A s ρ δ fv vals Q E rf va hr ro ct
 obtain ⟨v, rfl, rfl⟩ := vr1 va
 rw [rf]
 exact call_bool_bool (ct ρ δ s.heap s.toks _ Go.refl hr rfl)
theorem B_dictO {a p : Nat} {v : AV} (ok : Ok c) (h1 : lk c.G.top a = some [.obj p]) (h2 : lk c.G.top p = some [.str l, v]) : Bc c (.typ .dict) [.obj a] d T (.ref T.n) (hnew T (.dict [(.str l, v)] 1)) := by
 intro A s ρ δ fv vals Q E rf va hr ro ct
 obtain ⟨_, rfl, rfl⟩ := vr1 va
 obtain ⟨vs, kk, q1, w1⟩ := ok.top _ _ h1
 obtain ⟨us, kk', q2, w2⟩ := ok.top _ _ h2
 obtain ⟨_, rfl, rfl⟩ := vr1 w1
 obtain ⟨_, u, rfl, ⟨t, rfl⟩, r2⟩ := vr2 w2
 rw [rf]
 have dead : s.heap.get? s.heap.objs.size = none := dead_end _ (Nat.le_refl _)
 refine call_dict_pair (knd := strKind c.prog c.w) (k := S l) (by simp [PySem.strKind, Value.isStrOf]) ro.2.2 (hr.base _ _ q1) (hr.base _ _ q2) fun h' tk kp hd => ?_
 refine ct.late (t := tk) hr kp dead (let ⟨o, _, q, _⟩ := hd; ⟨o, q⟩) ⟨beq_false_of_ne fun z => ?_, .inl ⟨_, hd, rfl, r2.up (Nat.zero_le _) fun i q => absurd q (Nat.not_lt_zero i), trivial⟩⟩
 obtain ⟨ob, q⟩ := ok.sysm
 have := hr.base _ _ q
 rw [← z, dead] at this
 cases this
end
end Mine
end
section
open PySem PySem.W PyProof.Rows
namespace Mine
noncomputable abbrev k_append : Nat := 111529134485858
noncomputable abbrev k_startswith : Nat := 498014421767949786445172
noncomputable abbrev k_split : Nat := 504296730996
noncomputable abbrev k_strip : Nat := 487117256052
noncomputable abbrev k_rindex : Nat := 133480695425651
noncomputable abbrev k_get : Nat := 7693928
noncomputable abbrev k_isascii : Nat := 29953327213212778
noncomputable abbrev k_isdigit : Nat := 33049568969323626
section
variable {c : Cx} {T : Hp} {l m : List Nat} {r d ep : Nat} {xs : List AV} {es : List (AV × AV)} {v k : AV}
theorem G_startswith : Bg c (.str l) k_startswith "str.startswith" T := by
 rintro A s ρ δ _ pl Q E ⟨t, rfl⟩ hr h
 rw [show nmS k_startswith = ("startswith" : Str) by decide +kernel]; with_reducible exact GM.startswith h
theorem G_split : Bg c (.str l) k_split "str.split" T := by
 rintro A s ρ δ _ pl Q E ⟨t, rfl⟩ hr h
 rw [show nmS k_split = ("split" : Str) by decide +kernel]; with_reducible exact GM.split h
theorem G_strip : Bg c (.str l) k_strip "str.strip" T := by
 rintro A s ρ δ _ pl Q E ⟨t, rfl⟩ hr h
 rw [show nmS k_strip = ("strip" : Str) by decide +kernel]; with_reducible exact GM.strip h
theorem G_rindex : Bg c (.str l) k_rindex "str.rindex" T := by
 rintro A s ρ δ _ pl Q E ⟨t, rfl⟩ hr h
 rw [show nmS k_rindex = ("rindex" : Str) by decide +kernel]; with_reducible exact GM.rindex h
theorem G_isascii : Bg c (.str l) k_isascii "str.isascii" T := by
 rintro A s ρ δ _ pl Q E ⟨t, rfl⟩ hr h
 rw [show nmS k_isascii = ("isascii" : Str) by decide +kernel]; with_reducible exact GM.isascii h
theorem G_isdigit : Bg c (.str l) k_isdigit "str.isdigit" T := by
 rintro A s ρ δ _ pl Q E ⟨t, rfl⟩ hr h
 rw [show nmS k_isdigit = ("isdigit" : Str) by decide +kernel]; with_reducible exact GM.isdigit h
theorem G_append (ho : T.get r = some (.list xs)) : Bg c (.ref r) k_append "list.append" T := by
 intro A s ρ δ v pl Q E rv hr h
 obtain ⟨vs, k, h1, h2⟩ := (hr.obj _ _ ho).2
 rw [rv.2] at h ⊢
 rw [show nmS k_append = ("append" : Str) by decide +kernel]
 exact Calls.getMethod_list_append h1 rfl rfl h
theorem G_get (ho : T.get r = some (.dict es ep)) : Bg c (.ref r) k_get "dict.get" T := by
 intro A s ρ δ v pl Q E rv hr h
 rw [rv.2] at h ⊢
 rw [show nmS k_get = ("get" : Str) by decide +kernel]
 obtain ⟨_, ⟨kvs, h1, h2⟩ | ⟨kvs, h1, h2⟩⟩ := (hr.obj _ _ ho).2
 ·exact getMethod_builtin h1.dictOf.typeIs PySem.F.plainAttrs_dict PySem.F.slot_dict_get PySem.F.type_dict_get h1.dictOf.mapOf.noDict h
 ·exact getMethod_builtin h1.dictOf.typeIs PySem.F.plainAttrs_dict PySem.F.slot_dict_get PySem.F.type_dict_get h1.dictOf.mapOf.noDict h
theorem startswith_eq (x y : List Nat) : Txt.startswith (S x) (S y) = y.isPrefixOf x := by
 unfold Txt.startswith Builtin.Str.subAt
 rw [Bool.eq_iff_iff, List.isPrefixOf_iff_prefix]
 simp only [Str.length, List.size_toArray, Nat.zero_add, Bool.and_eq_true, decide_eq_true_eq, beq_iff_eq]
 constructor
 ·rintro ⟨h1, h2⟩
  have := congrArg Array.toList h2
  simp at this
  exact ⟨x.drop y.length, by conv => rhs; rw [← List.take_append_drop y.length x, this]⟩
 ·rintro ⟨r, rfl⟩
  simp
theorem M_startswith : Bm c "str.startswith" (.str l) [.str m] d T (.bool (m.isPrefixOf l)) T := by
 rintro A s ρ δ _ vals Q E ⟨t, rfl⟩ va hr ro ct
 obtain ⟨v, rfl, t', rfl⟩ := vr1 va
 exact SC.startswith (by rw [startswith_eq]; exact ct ρ δ s.heap _ _ Go.refl hr rfl)
theorem M_rindex {x i : Nat} (h1 : l[i]? = some x) (h2 : ∀ k, i < k → l[k]? ≠ some x) : Bm c "str.rindex" (.str l) [.str [x]] d T (.int (i : Int)) T := by
 rintro A s ρ δ _ vals Q E ⟨t, rfl⟩ va hr ro ct
 obtain ⟨v, rfl, t', rfl⟩ := vr1 va
 have e : Builtin.Str.lastOccurrence (S l) (S [x]) 0 (S l).length = some i := by
  have at_ : ∀ k, StrLaws.At (S l) ⟨#[x]⟩ (S l).length k ↔ l[k]? = some x := fun k => StrLaws.subAt_one (S l) x k
  rcases StrLaws.last_spec (S l) ⟨#[x]⟩ with ⟨q1, q2⟩ | ⟨j, q1, q2, q3⟩
  ·exact absurd ((at_ i).mpr h1) (q2 i)
  ·refine q1.trans (congrArg some ?_)
   have z1 := (at_ j).mp q2
   rcases Nat.lt_trichotomy i j with z | z | z
   ·exact absurd z1 (h2 j z)
   ·exact z.symm
   ·exact absurd ((at_ i).mpr h1) (q3 i z)
 exact call_gives PySem.F.slot_str_rindex (typeIs_str _ _ _) PySem.F.entry_str_rindex (PySem.F.args_str_rindex_2 _ _) (gives_str_rindex _ _ t t' i e) (ct ρ δ s.heap _ _ Go.refl hr ⟨_, rfl⟩)
theorem digs_all (h : l.all (fun b => decide (48 ≤ b ∧ b ≤ 57)) = true) : ∀ b ∈ l, 48 ≤ b ∧ b ≤ 57 := fun b hb => of_decide_eq_true (List.all_eq_true.mp h b hb)
theorem M_isascii (h : l.all (fun b => decide (48 ≤ b ∧ b ≤ 57)) = true) : Bm c "str.isascii" (.str l) [] d T (.bool true) T := by
 rintro A s ρ δ _ vals Q E ⟨t, rfl⟩ va hr ro ct
 cases vals with
 | cons => exact va.elim
 | nil =>
  refine SC.isascii ?_
  have : Txt.isascii (S l) = true := by
   unfold Txt.isascii
   rw [List.all_toArray]
   simp only [List.all_eq_true, decide_eq_true_eq]
   intro b hb
   have := digs_all h b hb
   omega
  rw [this]
  exact ct ρ δ s.heap _ _ Go.refl hr rfl
theorem uni_digit : ∀ i : Fin 10, Unicode.isDigit (48 + i.val) = true := by decide +kernel
theorem M_isdigit (h : l.all (fun b => decide (48 ≤ b ∧ b ≤ 57)) = true) (ne : l ≠ []) : Bm c "str.isdigit" (.str l) [] d T (.bool true) T := by
 rintro A s ρ δ _ vals Q E ⟨t, rfl⟩ va hr ro ct
 cases vals with
 | cons => exact va.elim
 | nil =>
  refine SC.isdigit ?_
  have : Txt.isdigit (S l) = true := by
   unfold Txt.isdigit
   rw [Bool.and_eq_true]
   refine ⟨?_, ?_⟩
   ·cases l with
    | nil => exact absurd rfl ne
    | cons => simp [Str.length]
   ·rw [List.all_toArray, List.all_eq_true]
    intro b hb
    have := digs_all h b hb
    have z := uni_digit ⟨b - 48, by omega⟩
    rwa [show 48 + (b - 48) = b by omega] at z
  rw [this]
  exact ct ρ δ s.heap _ _ Go.refl hr rfl
theorem M_append (ho : T.get r = some (.list xs)) (sz : xs.length < 4000) (hro : 1 ≤ r) : Bm c "list.append" (.ref r) [v] d T .none (hput T r (.list (xs ++ [v]))) := by
 intro A s ρ δ ov vals Q E rv va hr ro ct
 obtain ⟨vy, rfl, vr⟩ := vr1 va
 obtain ⟨lt, vals, kk, q1, q2⟩ := hr.obj _ _ ho
 rw [rv.2]
 rw [q2.len] at sz
 refine wpAny_list_append_plain (items := vals.toArray) ⟨kk, q1⟩ (fun h' z1 z2 => ?_) (by rw [List.size_toArray]; exact szl (by first | assumption | omega))
 obtain ⟨k2, z1⟩ := z1
 obtain ⟨hr6, g6⟩ := hr.turn1 (X := No) (ao := .list (xs ++ [v])) (h' := h') hro lt z2.extBut ⟨_, z1⟩ ⟨vals ++ [vy], k2, by rw [z1]; simp [W.listOf], q2.append ⟨vr, trivial⟩⟩
 exact ct ρ δ h' _ _ g6 hr6 rfl
theorem M_get {u : AV} (ho : T.get r = some (.dict es ep)) (hk : kOk k es = true) : Bm c "dict.get" (.ref r) [k, u] d T ((dlk k es).getD u) T := by
 intro A s ρ δ ov vals Q E rv va hr ro ct
 obtain ⟨kv, uv, rfl, r1, r2⟩ := vr2 va
 have dr := (hr.obj _ _ ho).2
 rw [rv.2]
 refine DR.key dr hk r1 fun {K _ knd is} kk {kvs b} hd hkr hb hkey back => ?_
 have L := KR.look kk hb hkr
 refine call_meetsIn PySem.F.slot_dict_get hd.dictOf.typeIs PySem.F.entry_dict_get (PySem.F.args_dict_get_3 _ _ _) (meets_dict_get_default knd _ hkey dr.1 uv) ⟨_, hd.dictOf.mapOf, ?_⟩
 refine ct ρ δ s.heap _ _ Go.refl hr ?_
 cases q : dlk k es with
 | none => rw [L.2 q]; exact r2
 | some y => obtain ⟨w, w1, w2⟩ := L.1 y q; rw [w1]; exact w2
end
end Mine
end
section
open PySem PySem.W PyProof.Rows
namespace Mine
noncomputable def joinL (c : Nat) : List (List Nat) → List Nat
 | [] => []
 | x :: r => x ++ (match r with | [] => [] | _ :: _ => c :: joinL c r)
theorem free_app {c : Nat} {x : List Nat} : ∀ {y r s : List Nat}, c ∉ x → c ∉ y → x ++ c :: r = y ++ c :: s → x = y ∧ r = s := by
 induction x with
 | nil => intro y r s _ h e; cases y with
  | nil => exact ⟨rfl, (List.cons.inj e).2⟩
  | cons b y => exact absurd (List.cons.inj e).1 fun z => h (z ▸ .head _)
 | cons a x ih => intro y r s h1 h2 e; cases y with
  | nil => exact absurd (List.cons.inj e).1 fun z => h1 (z ▸ .head _)
  | cons b y =>
   obtain ⟨e1, e2⟩ := List.cons.inj e
   obtain ⟨z1, z2⟩ := ih (fun z => h1 (.tail _ z)) (fun z => h2 (.tail _ z)) e2
   exact ⟨by rw [e1, z1], z2⟩
theorem join_inj {c : Nat} {a : List (List Nat)} : ∀ {b : List (List Nat)}, a ≠ [] → b ≠ [] → (∀ p ∈ a, c ∉ p) → (∀ p ∈ b, c ∉ p) → joinL c a = joinL c b → a = b := by
 induction a with
 | nil => exact fun h => absurd rfl h
 | cons x a ih => intro b _ h h1 h2 e; cases b with
  | nil => exact absurd rfl h
  | cons y b => cases a with
   | nil => cases b with
    | nil =>
     have e : x ++ [] = y ++ [] := e
     rw [List.append_nil, List.append_nil] at e
     rw [e]
    | cons z r =>
     have e : x ++ [] = y ++ c :: joinL c (z :: r) := e
     rw [List.append_nil] at e
     exact absurd (show c ∈ x by rw [e]; exact List.mem_append_right _ (.head _)) (h1 x (.head _))
   | cons x2 a => cases b with
    | nil =>
     have e : x ++ c :: joinL c (x2 :: a) = y ++ [] := e
     rw [List.append_nil] at e
     exact absurd (show c ∈ y by rw [← e]; exact List.mem_append_right _ (.head _)) (h2 y (.head _))
    | cons z r =>
     obtain ⟨z1, z2⟩ := free_app (h1 x (.head _)) (h2 y (.head _)) e
     rw [z1, ih (List.cons_ne_nil _ _) (List.cons_ne_nil _ _) (fun p hp => h1 p (.tail _ hp)) (fun p hp => h2 p (.tail _ hp)) z2]
theorem join_cps (c : Nat) (l : List Str) : (Str.join ⟨#[c]⟩ l).cps.toList = joinL c (l.map (·.cps.toList)) := by
 induction l with
 | nil => rfl
 | cons x r ih => cases r with
  | nil => exact (List.append_nil _).symm
  | cons y r =>
   show ((x.cps ++ #[c]) ++ (Str.join ⟨#[c]⟩ (y :: r)).cps).toList = x.cps.toList ++ c :: joinL c ((y :: r).map (·.cps.toList))
   rw [← ih]
   simp
theorem split_eq {c : Nat} {l : List Nat} {ps : List (List Nat)} (ne' : ps ≠ []) (hf : ∀ p ∈ ps, c ∉ p) (e : joinL c ps = l) : Txt.split (S l) (S [c]) = ps.map S := by
 have h1 := StrLaws.join_split (S l) ⟨#[c]⟩
 have h2 := StrLaws.split_free (S l) c
 have h3 : joinL c ((Txt.split (S l) ⟨#[c]⟩).map (·.cps.toList)) = l := by
  rw [← join_cps, h1]
 have ne : Txt.split (S l) ⟨#[c]⟩ ≠ [] := by
  unfold Txt.split
  split
  ·exact List.cons_ne_nil _ _
  ·split
   ·exact List.cons_ne_nil _ _
   ·rw [StrLaws.partsBetween_eq]
    obtain ⟨p, r, e⟩ := StrLaws.partsFrom_ne (S l) (⟨#[c]⟩ : Str).length 0 (Builtin.Str.occurrences (S l) ⟨#[c]⟩ 0 (S l).length ((S l).length + 1))
    rw [e]; exact List.cons_ne_nil _ _
 have key : (Txt.split (S l) ⟨#[c]⟩).map (·.cps.toList) = ps := by
  refine join_inj (c := c) (fun z => ne (List.map_eq_nil_iff.mp z)) ne' ?_ hf (h3.trans e.symm)
  intro p hp
  obtain ⟨q, hq, rfl⟩ := List.mem_map.mp hp
  exact h2 q hq
 rw [← key, List.map_map]
 exact (List.map_id _).symm
section
variable {prog : Program} {w : World} {A : Around} {E : Value → Shared → Prop} {s : Shared} {x : Str} {t : Tok} {Q : Value → Shared → Prop}
theorem split_one {y : Str} {u : Tok} (hy : (y.length == 0) = false) (hsz : x.length ≤ sizeLine) (hsz2 : (Txt.split x y).length ≤ sizeLine)
  (hq : ∀ (l : List (Str × Tok)) tk, l.map (·.1) = Txt.split x y → Q (.ref s.heap.objs.size) { s with heap := s.heap.push { cls := .type "list", data := .seq (strValues l).toArray }, toks := tk }) :
  wpAny (model prog w) A (call (.builtin "str.split") [.str x t, .str y u]) Q E s := by
 cases h1 : (decide (x.length < y.length) || decide (Builtin.Str.strKind x < Builtin.Str.strKind y))
 ·cases hf : (Builtin.Str.occurrences x y 0 x.length (x.length + 1)).isEmpty
  ·have e : Txt.split x y = Builtin.Str.partsBetween x (Builtin.Str.occurrences x y 0 x.length (x.length + 1)) y.length := (if_neg (ne_true_of_eq_false h1)).trans (if_neg (ne_true_of_eq_false hf))
   rw [e] at hsz2
   refine call_meets PySem.F.slot_str_split (typeIs_str _ _ _) PySem.F.entry_str_split (PySem.F.args_str_split_2 _ _) (meets_str_split_sep x y t u h1 hy hf hsz hsz2) ?_
   show wants Q E _ { s with toks := _, heap := s.heap.push { cls := .type "list", data := .seq (strsFrom s.toks (Builtin.Str.partsBetween x (Builtin.Str.occurrences x y 0 x.length (x.length + 1)) y.length)).toArray } }
   rw [strsFrom_eq]
   exact hq (numbered s.toks _) _ ((numbered_texts _ _).trans e.symm)
  ·exact call_meets PySem.F.slot_str_split (typeIs_str _ _ _) PySem.F.entry_str_split (PySem.F.args_str_split_2 _ _) (meets_str_split_not_found x y t u h1 hy hf)
    (hq [(x, t)] s.toks ((if_neg (ne_true_of_eq_false h1)).trans (if_pos hf)).symm)
 ·exact call_meets PySem.F.slot_str_split (typeIs_str _ _ _) PySem.F.entry_str_split (PySem.F.args_str_split_2 _ _) (meets_str_split_cannot_occur x y t u h1)
   (hq [(x, t)] s.toks (if_pos h1).symm)
end
section
variable {c : Cx} {T : Hp} {l m : List Nat} {d : Nat}
theorem strs_vr {n : Nat} {ρ : Nat → Addr} (ps : List (List Nat)) : ∀ {ll : List (Str × Tok)}, ll.map (·.1) = ps.map S → VRs n ρ (ps.map .str) (strValues ll) := by
 induction ps with
 | nil => intro ll hl; cases ll with
  | nil => trivial
  | cons => cases hl
 | cons p ps ih => intro ll hl; cases ll with
  | nil => cases hl
  | cons q ll =>
   obtain ⟨e1, e2⟩ := List.cons.inj hl
   obtain ⟨q, t⟩ := q
   cases e1
   exact ⟨⟨t, rfl⟩, ih e2⟩
theorem M_split {x : Nat} {ps : List (List Nat)} (ne : ps ≠ []) (hf : ∀ p ∈ ps, x ∉ p) (e : joinL x ps = l) (h : l.length < 4000) (h2 : ps.length < 4000) : Bm c "str.split" (.str l) [.str [x]] d T (.ref T.n) (hnew T (.list (ps.map .str))) := by
 rintro A s ρ δ _ vals Q E ⟨t, rfl⟩ va hr ro ct
 obtain ⟨v, rfl, t', rfl⟩ := vr1 va
 have e := split_eq ne hf e
 refine split_one (by rfl) (by rw [S_len]; exact szl h) (by rw [e, List.length_map]; exact szl h2) fun ll tk hl => ?_
 exact ct.push (t := tk) hr rfl ⟨strValues ll, 0, Heap.get?_push_size _ rfl, strs_vr ps (hl.trans e)⟩
theorem take_all {p : Nat → Bool} (h : ∀ b ∈ l, p b = true) : l.takeWhile p = l := by
 induction l with
 | nil => rfl
 | cons a l ih => rw [List.takeWhile_cons, if_pos (h a (.head _)), ih fun b hb => h b (.tail _ hb)]
theorem M_strip0 (h : ∀ b ∈ l, b ∈ m) (hl : l.length < 4000) : Bm c "str.strip" (.str l) [.str m] d T (.str []) T := by
 rintro A s ρ δ _ vals Q E ⟨t, rfl⟩ va hr ro ct
 obtain ⟨v, rfl, t', rfl⟩ := vr1 va
 refine SC.stripChars (fun t' k => ?_) (by rw [S_len]; exact szl hl)
 have e : Txt.stripChars (S l) (S m) = S [] := by
  have lo : stripLo (S m).cps.contains true (S l) = l.length := by
   show (l.takeWhile _).length = _
   rw [show l.takeWhile (S m).cps.contains = l from take_all fun b hb => by simpa using h b hb]
  unfold Txt.stripChars Txt.stripBy
  split
  ·rename_i q
   unfold stripSame at q
   rw [lo, Bool.and_eq_true] at q
   rw [List.eq_nil_of_length_eq_zero (eq_of_beq q.1)]
  ·unfold PySem.stripped
   rw [lo]
   have hi : stripHi (S m).cps.contains true (S l) l.length = l.length := by
    show (S l).length - ((l.drop l.length).reverse.takeWhile _).length = _
    rw [List.drop_length, S_len]; rfl
   rw [hi]
   show (⟨(l.toArray).extract l.length l.length⟩ : Str) = _
   rw [Array.extract_eq_empty_of_le (by simp)]
 rw [e]
 exact ct ρ δ s.heap k _ Go.refl hr ⟨_, rfl⟩
end
end Mine
end
section
open PySem PySem.W PyProof.Rows
namespace Mine
structure V where
 tag : Nat
 s : Str
 k : Nat
 p : Pos
 i : Int
 a : PySem.Expr
 b : PySem.Expr
 d : PySem.Expr
 t : PySem.Expr
 l : List PySem.Expr
 m : List PySem.Expr
 ks : List (Option PySem.Expr)
 cop : CmpOp
 bop : Operator
 sc : Option Scope
noncomputable def v0 (x : PySem.Expr) (p : Pos) : V := ⟨0, ⟨#[]⟩, 0, p, 0, x, x, x, x, [], [], [], .Eq, .Add, none⟩
noncomputable def vw (x : PySem.Expr) : V := match x with
 | .Name y p => { v0 x p with tag := 1, s := y }
 | .Constant .none k p => { v0 x p with tag := 2, k := k }
 | .Constant (.bool true) k p => { v0 x p with tag := 3, k := k }
 | .Constant (.bool false) k p => { v0 x p with tag := 4, k := k }
 | .Constant (.int i) k p => { v0 x p with tag := 5, k := k, i := i }
 | .Constant (.str y) k p => { v0 x p with tag := 6, k := k, s := y }
 | .Attribute a y p => { v0 x p with tag := 7, a := a, s := y }
 | .Call a l [] p => { v0 x p with tag := 8, a := a, l := l }
 | .BinOp a o b p => { v0 x p with tag := 9, a := a, bop := o, b := b }
 | .Compare a [o] [b] p => { v0 x p with tag := 10, a := a, cop := o, b := b }
 | .BoolOp .And l p => { v0 x p with tag := 11, l := l }
 | .BoolOp .Or l p => { v0 x p with tag := 12, l := l }
 | .UnaryOp .Not a p => { v0 x p with tag := 13, a := a }
 | .UnaryOp .USub a p => { v0 x p with tag := 14, a := a }
 | .Subscript a b p => { v0 x p with tag := 15, a := a, b := b }
 | .Slice (some a) none none p => { v0 x p with tag := 16, a := a }
 | .Slice none (some a) none p => { v0 x p with tag := 17, a := a }
 | .List l p => { v0 x p with tag := 18, l := l }
 | .Tuple l k p => { v0 x p with tag := 19, l := l, k := k }
 | .Dict ks l p => { v0 x p with tag := 20, l := l, ks := ks }
 | .ListComp a [g] sc p => { v0 x p with tag := 21, a := a, t := g.target, b := g.iter, m := g.ifs, i := g.is_async, sc := some sc }
 | .DictComp a d [g] sc p => { v0 x p with tag := 22, a := a, d := d, t := g.target, b := g.iter, m := g.ifs, i := g.is_async, sc := some sc }
 | _ => v0 x x.pos
noncomputable def bk (t : Nat) (v : V) (x : PySem.Expr) : PySem.Expr := match t with
 | 1 => .Name v.s v.p
 | 2 => .Constant .none v.k v.p
 | 3 => .Constant (.bool true) v.k v.p
 | 4 => .Constant (.bool false) v.k v.p
 | 5 => .Constant (.int v.i) v.k v.p
 | 6 => .Constant (.str v.s) v.k v.p
 | 7 => .Attribute v.a v.s v.p
 | 8 => .Call v.a v.l [] v.p
 | 9 => .BinOp v.a v.bop v.b v.p
 | 10 => .Compare v.a [v.cop] [v.b] v.p
 | 11 => .BoolOp .And v.l v.p
 | 12 => .BoolOp .Or v.l v.p
 | 13 => .UnaryOp .Not v.a v.p
 | 14 => .UnaryOp .USub v.a v.p
 | 15 => .Subscript v.a v.b v.p
 | 16 => .Slice (some v.a) none none v.p
 | 17 => .Slice none (some v.a) none v.p
 | 18 => .List v.l v.p
 | 19 => .Tuple v.l v.k v.p
 | 20 => .Dict v.ks v.l v.p
 | 21 => (match v.sc with | some sc => .ListComp v.a [⟨v.t, v.b, v.m, v.i⟩] sc v.p | none => x)
 | 22 => (match v.sc with | some sc => .DictComp v.a v.d [⟨v.t, v.b, v.m, v.i⟩] sc v.p | none => x)
 | _ => x
theorem bk_ok (x : PySem.Expr) : x = bk (vw x).tag (vw x) x := by
 cases x with
 | Constant v k p => cases v with
  | bool b => cases b <;> rfl
  | _ => rfl
 | Call a l kw p => cases kw <;> rfl
 | Compare a ops rs p => cases ops with
  | nil => rfl
  | cons o ops => cases ops with
   | cons => rfl
   | nil => cases rs with
    | nil => rfl
    | cons r rs => cases rs <;> rfl
 | BoolOp o l p => cases o <;> rfl
 | UnaryOp o a p => cases o <;> rfl
 | Slice a b st p => cases st with
  | some => cases a <;> cases b <;> rfl
  | none => cases a <;> cases b <;> rfl
 | ListComp a gs sc p => cases gs with
  | nil => rfl
  | cons g gs => obtain ⟨_, _, _, _⟩ := g; cases gs <;> rfl
 | DictComp a d gs sc p => cases gs with
  | nil => rfl
  | cons g gs => obtain ⟨_, _, _, _⟩ := g; cases gs <;> rfl
 | _ => rfl
theorem inv {x : PySem.Expr} {t : Nat} (h : Nat.beq (vw x).tag t = true) : x = bk t (vw x) x := (bk_ok x).trans (by rw [Nat.eq_of_beq_eq_true h])
theorem and2 {a b : Bool} (h : (a && b) = true) : a = true ∧ b = true := (Bool.and_eq_true _ _).mp h
theorem no {P : Prop} (h : false = true) : P := (Bool.false_ne_true h).elim
theorem not_t {b : Bool} (h : (!b) = true) : b = false := by cases b <;> first | rfl | cases h
noncomputable def isGlb (k : Option NameKind) : Bool := match k with
 | some .globalImplicit => true
 | _ => false
theorem isGlb_eq {k : Option NameKind} (h : isGlb k = true) : k = some .globalImplicit := by
 cases k with
 | none => cases h
 | some k => cases k <;> first | rfl | cases h
theorem nmS_of {x : Nat} {y : Str} (h : decide (nm x = y.cps.toList) = true) : y = nmS x := by
 show y = S (nm x)
 rw [of_decide_eq_true h]
noncomputable def chkN (x : Nat) (y : Str) : Bool := decide (nm x = y.cps.toList)
noncomputable def chkName (kd : Kd) (x : Nat) (e : PySem.Expr) : Bool := Nat.beq (vw e).tag 1 && (chkN x (vw e).s && mine? (kd (vw e).s))
theorem chkName_ok {kd : Kd} {x : Nat} {e : PySem.Expr} (h : chkName kd x e = true) : ∃ p, e = .Name (nmS x) p ∧ mine? (kd (nmS x)) = true := by
 obtain ⟨h1, h2⟩ := and2 h
 obtain ⟨h2, h3⟩ := and2 h2
 rw [nmS_of h2] at h3
 exact ⟨_, (inv h1).trans (congrArg (PySem.Expr.Name · _) (nmS_of h2)), h3⟩
noncomputable def chkNs (kd : Kd) : List Nat → List PySem.Expr → Bool
 | [], l => l.isEmpty
 | x :: xs, l => (match l with | e :: l => chkName kd x e && chkNs kd xs l | [] => false)
theorem chkNs_ok {kd : Kd} {xs : List Nat} : ∀ {l : List PySem.Expr}, chkNs kd xs l = true → MNs kd xs l := by
 induction xs with
 | nil => intro l h; exact List.isEmpty_iff.mp h
 | cons x xs ih => intro l h; cases l with
  | nil => exact no h
  | cons e l =>
   obtain ⟨h1, h2⟩ := and2 h
   obtain ⟨p, rfl, h3⟩ := chkName_ok h1
   exact ⟨p, l, rfl, h3, ih h2⟩
noncomputable def chkT (kd : Kd) (xs : List Nat) (e : PySem.Expr) : Bool := match xs with
 | [x] => chkName kd x e
 | _ => Nat.beq (vw e).tag 19 && (Nat.ble 2 xs.length && chkNs kd xs (vw e).l)
theorem chkT_ok {kd : Kd} {xs : List Nat} {e : PySem.Expr} (h : chkT kd xs e = true) : MT kd xs e := by
 have k : (Nat.beq (vw e).tag 19 && (Nat.ble 2 xs.length && chkNs kd xs (vw e).l)) = true → MT kd xs e := fun h => by
  obtain ⟨h1, h2⟩ := and2 h
  obtain ⟨h2, h3⟩ := and2 h2
  exact .inr ⟨_, _, _, Nat.le_of_ble_eq_true h2, inv h1, chkNs_ok h3⟩
 cases xs with
 | nil => exact k h
 | cons x xs => cases xs with
  | cons => exact k h
  | nil => obtain ⟨p, h1, h2⟩ := chkName_ok h; exact .inl ⟨x, p, rfl, h1, h2⟩
mutual
noncomputable def chkE : PE → Kd → PySem.Expr → Bool
 | .bad, _, _ => true
 | .none, _, x => Nat.beq (vw x).tag 2
 | .bool b, _, x => Nat.beq (vw x).tag (cond b 3 4)
 | .int i, _, x => Nat.beq (vw x).tag 5 && decide ((vw x).i = i)
 | .str s, _, x => Nat.beq (vw x).tag 6 && decide (s = (vw x).s.cps.toList)
 | .loc n, kd, x => Nat.beq (vw x).tag 1 && (chkN n (vw x).s && (own? (kd (vw x).s) && !isDbg (vw x).s))
 | .glb n, kd, x => Nat.beq (vw x).tag 1 && (chkN n (vw x).s && (isGlb (kd (vw x).s) && !isDbg (vw x).s))
 | .attr o a, kd, x => Nat.beq (vw x).tag 7 && (chkN a (vw x).s && (notSuper (vw x).a && chkE o kd (vw x).a))
 | .call f l, kd, x => Nat.beq (vw x).tag 8 && (Nat.beq (vw (vw x).a).tag 1 && (chkE f kd (vw x).a && chkEs l kd (vw x).l))
 | .meth o m l, kd, x => Nat.beq (vw x).tag 8 && (Nat.beq (vw (vw x).a).tag 7 && (chkN m (vw (vw x).a).s && (notSuper (vw (vw x).a).a && (((vw (vw x).a).p.endLine == (vw x).p.line) && (Nat.blt (lenE l) 29 && (chkE o kd (vw (vw x).a).a && chkEs l kd (vw x).l))))))
 | .bin op l r, kd, x => Nat.beq (vw x).tag 9 && (decide ((vw x).bop = op.op) && (chkE l kd (vw x).a && chkE r kd (vw x).b))
 | .cmp op l r, kd, x => Nat.beq (vw x).tag 10 && (decide ((vw x).cop = op.op) && (!behindInMarks op.op (vw x).b && (chkE l kd (vw x).a && chkE r kd (vw x).b)))
 | .cmp2 .., _, _ => false
 | .and l, kd, x => Nat.beq (vw x).tag 11 && chkEs l kd (vw x).l
 | .or l, kd, x => Nat.beq (vw x).tag 12 && chkEs l kd (vw x).l
 | .not e, kd, x => Nat.beq (vw x).tag 13 && chkE e kd (vw x).a
 | .neg e, kd, x => Nat.beq (vw x).tag 14 && chkE e kd (vw x).a
 | .sub o i, kd, x => Nat.beq (vw x).tag 15 && (notSlice (vw x).b && (chkE o kd (vw x).a && chkE i kd (vw x).b))
 | .slice o up i, kd, x => Nat.beq (vw x).tag 15 && (Nat.beq (vw (vw x).b).tag (cond up 17 16) && (chkE o kd (vw x).a && chkE i kd (vw (vw x).b).a))
 | .list l, kd, x => Nat.beq (vw x).tag 18 && (Nat.blt (lenE l) 1000 && chkEs l kd (vw x).l)
 | .tuple l, kd, x => Nat.beq (vw x).tag 19 && (Nat.blt (lenE l) 1000 && chkEs l kd (vw x).l)
 | .dict l, kd, x => Nat.beq (vw x).tag 20 && (Nat.ble (lenE l) 30 && chkPs l kd (vw x).ks (vw x).l)
 | .listc v xs it ifs, kd, x => (match (vw x).sc with
  | some sc => Nat.beq (vw x).tag 21 && (decide ((vw x).i = 0) && (notSet (vw x).b && (compOk kd sc xs && (chkT (kdC kd sc) xs (vw x).t && (chkE it kd (vw x).b && (chkE v (kdC kd sc) (vw x).a && chkEs ifs (kdC kd sc) (vw x).m))))))
  | none => false)
 | .dictc k v n it ifs, kd, x => (match (vw x).sc with
  | some sc => Nat.beq (vw x).tag 22 && (decide ((vw x).i = 0) && (notSet (vw x).b && (compOk kd sc [n] && (chkT (kdC kd sc) [n] (vw x).t && (chkE it kd (vw x).b && (chkE k (kdC kd sc) (vw x).a && (chkE v (kdC kd sc) (vw x).d && chkEs ifs (kdC kd sc) (vw x).m)))))))
  | none => false)
 | .setc .., _, _ => false
noncomputable def chkEs : PEs → Kd → List PySem.Expr → Bool
 | .nil, _, l => l.isEmpty
 | .cons e l, kd, x => (match x with | e' :: l' => noStar e' && (chkE e kd e' && chkEs l kd l') | [] => false)
noncomputable def chkPs : PEs → Kd → List (Option PySem.Expr) → List PySem.Expr → Bool
 | .nil, _, ks, vs => ks.isEmpty && vs.isEmpty
 | .cons k .nil, _, _, _ => false
 | .cons k (.cons v l), kd, ks, vs => (match ks with | some k' :: ks' => (match vs with | v' :: vs' => chkE k kd k' && (chkE v kd v' && chkPs l kd ks' vs') | [] => false) | _ => false)
end
end Mine
end
section
open PySem PySem.W PyProof.Rows
namespace Mine
mutual
theorem chkE_ok : ∀ (p : PE) {kd : Kd} {x : PySem.Expr}, chkE p kd x = true → ME p kd x
 | .bad, _, _, _ => trivial
 | .none, kd, x, h => ⟨_, _, inv h⟩
 | .bool b, kd, x, h => by cases b <;> exact ⟨_, _, inv h⟩
 | .int i, kd, x, h => by
  obtain ⟨h1, h2⟩ := and2 h
  have := of_decide_eq_true h2; subst this
  exact ⟨_, _, inv h1⟩
 | .str s, kd, x, h => by
  obtain ⟨h1, h2⟩ := and2 h
  have := of_decide_eq_true h2; subst this
  exact ⟨_, _, inv h1⟩
 | .loc n, kd, x, h => by
  obtain ⟨h1, h2⟩ := and2 h
  obtain ⟨h2, h3⟩ := and2 h2
  obtain ⟨h3, h4⟩ := and2 h3
  have e : x = .Name (vw x).s _ := inv h1
  rw [nmS_of h2] at h3 h4 e
  exact ⟨_, e, h3, not_t h4⟩
 | .glb n, kd, x, h => by
  obtain ⟨h1, h2⟩ := and2 h
  obtain ⟨h2, h3⟩ := and2 h2
  obtain ⟨h3, h4⟩ := and2 h3
  have e : x = .Name (vw x).s _ := inv h1
  rw [nmS_of h2] at h3 h4 e
  exact ⟨_, e, isGlb_eq h3, not_t h4⟩
 | .attr o a, kd, x, h => by
  obtain ⟨h1, h2⟩ := and2 h
  obtain ⟨h2, h3⟩ := and2 h2
  obtain ⟨h3, h4⟩ := and2 h3
  have e : x = .Attribute _ (vw x).s _ := inv h1
  rw [nmS_of h2] at e
  exact ⟨_, _, e, chkE_ok o h4, h3⟩
 | .call f l, kd, x, h => by
  obtain ⟨h1, h2⟩ := and2 h
  obtain ⟨h2, h3⟩ := and2 h2
  obtain ⟨h3, h4⟩ := and2 h3
  exact ⟨_, _, _, inv h1, ⟨_, _, inv h2⟩, chkE_ok f h3, chkEs_ok l h4⟩
 | .meth o m l, kd, x, h => by
  obtain ⟨h1, h2⟩ := and2 h
  obtain ⟨h2, h3⟩ := and2 h2
  obtain ⟨h3, h4⟩ := and2 h3
  obtain ⟨h4, h5⟩ := and2 h4
  obtain ⟨h5, h6⟩ := and2 h5
  obtain ⟨h6, h7⟩ := and2 h6
  obtain ⟨h7, h8⟩ := and2 h7
  have e : x = .Call (vw x).a _ _ _ := inv h1
  have e2 : (vw x).a = .Attribute _ (vw (vw x).a).s _ := inv h2
  rw [nmS_of h3] at e2
  exact ⟨_, _, _, _, e.trans (congrArg (PySem.Expr.Call · _ _ _) e2), chkE_ok o h7, h4, chkEs_ok l h8, h5, Nat.le_of_ble_eq_true h6⟩
 | .bin op l r, kd, x, h => by
  obtain ⟨h1, h2⟩ := and2 h
  obtain ⟨h2, h3⟩ := and2 h2
  obtain ⟨h3, h4⟩ := and2 h3
  have e : x = .BinOp _ (vw x).bop _ _ := inv h1
  rw [of_decide_eq_true h2] at e
  exact ⟨_, _, _, e, chkE_ok l h3, chkE_ok r h4⟩
 | .cmp op l r, kd, x, h => by
  obtain ⟨h1, h2⟩ := and2 h
  obtain ⟨h2, h3⟩ := and2 h2
  obtain ⟨h3, h4⟩ := and2 h3
  obtain ⟨h4, h5⟩ := and2 h4
  have e : x = .Compare _ [(vw x).cop] _ _ := inv h1
  rw [of_decide_eq_true h2] at e
  exact ⟨_, _, _, e, chkE_ok l h4, chkE_ok r h5, not_t h3⟩
 | .cmp2 .., kd, x, h => no h
 | .and l, kd, x, h => let ⟨h1, h2⟩ := and2 h; ⟨_, _, inv h1, chkEs_ok l h2⟩
 | .or l, kd, x, h => let ⟨h1, h2⟩ := and2 h; ⟨_, _, inv h1, chkEs_ok l h2⟩
 | .not e, kd, x, h => let ⟨h1, h2⟩ := and2 h; ⟨_, _, inv h1, chkE_ok e h2⟩
 | .neg e, kd, x, h => let ⟨h1, h2⟩ := and2 h; ⟨_, _, inv h1, chkE_ok e h2⟩
 | .sub o i, kd, x, h => by
  obtain ⟨h1, h2⟩ := and2 h
  obtain ⟨h2, h3⟩ := and2 h2
  obtain ⟨h3, h4⟩ := and2 h3
  exact ⟨_, _, _, inv h1, chkE_ok o h3, chkE_ok i h4, h2⟩
 | .slice o up i, kd, x, h => by
  obtain ⟨h1, h2⟩ := and2 h
  obtain ⟨h2, h3⟩ := and2 h2
  obtain ⟨h3, h4⟩ := and2 h3
  have e : x = .Subscript _ (vw x).b _ := inv h1
  have e2 : (vw x).b = cond up (.Slice none (some (vw (vw x).b).a) none (vw (vw x).b).p) (.Slice (some (vw (vw x).b).a) none none (vw (vw x).b).p) := by
   cases up <;> exact inv h2
  exact ⟨_, _, _, _, e.trans (congrArg (PySem.Expr.Subscript _ · _) e2), chkE_ok o h3, chkE_ok i h4⟩
 | .list l, kd, x, h => by
  obtain ⟨h1, h2⟩ := and2 h
  obtain ⟨h2, h3⟩ := and2 h2
  exact ⟨_, _, inv h1, chkEs_ok l h3, Nat.le_of_ble_eq_true h2⟩
 | .tuple l, kd, x, h => by
  obtain ⟨h1, h2⟩ := and2 h
  obtain ⟨h2, h3⟩ := and2 h2
  exact ⟨_, _, _, inv h1, chkEs_ok l h3, Nat.le_of_ble_eq_true h2⟩
 | .dict l, kd, x, h => by
  obtain ⟨h1, h2⟩ := and2 h
  obtain ⟨h2, h3⟩ := and2 h2
  exact ⟨_, _, _, inv h1, chkPs_ok l h3, Nat.le_of_ble_eq_true h2⟩
 | .listc v xs it ifs, kd, x, h => by
  have k : ∀ o, (vw x).sc = o → (match o with | some sc => Nat.beq (vw x).tag 21 && (decide ((vw x).i = 0) && (notSet (vw x).b && (compOk kd sc xs && (chkT (kdC kd sc) xs (vw x).t && (chkE it kd (vw x).b && (chkE v (kdC kd sc) (vw x).a && chkEs ifs (kdC kd sc) (vw x).m)))))) | none => false) = true → ME (.listc v xs it ifs) kd x := fun o q h => by
   cases o with
   | none => exact no h
   | some sc =>
    obtain ⟨h1, h2⟩ := and2 h
    obtain ⟨h2, h3⟩ := and2 h2
    obtain ⟨h3, h4⟩ := and2 h3
    obtain ⟨h4, h5⟩ := and2 h4
    obtain ⟨h5, h6⟩ := and2 h5
    obtain ⟨h6, h7⟩ := and2 h6
    obtain ⟨h7, h8⟩ := and2 h7
    have e : x = (match (vw x).sc with | some sc => .ListComp (vw x).a [⟨(vw x).t, (vw x).b, (vw x).m, (vw x).i⟩] sc (vw x).p | none => x) := inv h1
    rw [q, of_decide_eq_true h2] at e
    exact ⟨_, _, _, _, _, _, e, chkE_ok it h6, h3, h4, chkE_ok v h7, chkT_ok h5, chkEs_ok ifs h8⟩
  exact k _ rfl h
 | .dictc y v n it ifs, kd, x, h => by
  have k : ∀ o, (vw x).sc = o → (match o with | some sc => Nat.beq (vw x).tag 22 && (decide ((vw x).i = 0) && (notSet (vw x).b && (compOk kd sc [n] && (chkT (kdC kd sc) [n] (vw x).t && (chkE it kd (vw x).b && (chkE y (kdC kd sc) (vw x).a && (chkE v (kdC kd sc) (vw x).d && chkEs ifs (kdC kd sc) (vw x).m))))))) | none => false) = true → ME (.dictc y v n it ifs) kd x := fun o q h => by
   cases o with
   | none => exact no h
   | some sc =>
    obtain ⟨h1, h2⟩ := and2 h
    obtain ⟨h2, h3⟩ := and2 h2
    obtain ⟨h3, h4⟩ := and2 h3
    obtain ⟨h4, h5⟩ := and2 h4
    obtain ⟨h5, h6⟩ := and2 h5
    obtain ⟨h6, h7⟩ := and2 h6
    obtain ⟨h7, h8⟩ := and2 h7
    obtain ⟨h8, h9⟩ := and2 h8
    have e : x = (match (vw x).sc with | some sc => .DictComp (vw x).a (vw x).d [⟨(vw x).t, (vw x).b, (vw x).m, (vw x).i⟩] sc (vw x).p | none => x) := inv h1
    rw [q, of_decide_eq_true h2] at e
    exact ⟨_, _, _, _, _, _, _, e, chkE_ok it h6, h3, h4, chkE_ok y h7, chkE_ok v h8, chkT_ok h5, chkEs_ok ifs h9⟩
  exact k _ rfl h
 | .setc .., kd, x, h => no h
theorem chkEs_ok : ∀ (p : PEs) {kd : Kd} {x : List PySem.Expr}, chkEs p kd x = true → MEs p kd x
 | .nil, kd, x, h => List.isEmpty_iff.mp h
 | .cons e l, kd, x, h => by
  cases x with
  | nil => exact no h
  | cons e' l' =>
   obtain ⟨h1, h2⟩ := and2 h
   obtain ⟨h2, h3⟩ := and2 h2
   exact ⟨_, _, rfl, chkE_ok e h2, chkEs_ok l h3, h1⟩
theorem chkPs_ok : ∀ (p : PEs) {kd : Kd} {ks : List (Option PySem.Expr)} {vs : List PySem.Expr}, chkPs p kd ks vs = true → MPs p kd ks vs
 | .nil, kd, ks, vs, h => let ⟨h1, h2⟩ := and2 h; ⟨List.isEmpty_iff.mp h1, List.isEmpty_iff.mp h2⟩
 | .cons k .nil, kd, ks, vs, h => no h
 | .cons k (.cons v l), kd, ks, vs, h => by
  cases ks with
  | nil => exact no h
  | cons k' ks => cases k' with
   | none => exact no h
   | some k' => cases vs with
    | nil => exact no h
    | cons v' vs =>
     obtain ⟨h1, h2⟩ := and2 h
     obtain ⟨h2, h3⟩ := and2 h2
     exact ⟨_, _, _, _, rfl, rfl, chkE_ok k h1, chkE_ok v h2, chkPs_ok l h3⟩
end
end Mine
end
section
open PySem PySem.W PyProof.Rows
namespace Mine
noncomputable def namesEq : List Nat → List Str → Bool
 | [], l => l.isEmpty
 | x :: xs, l => (match l with | y :: ys => chkN x y && namesEq xs ys | [] => false)
theorem namesEq_eq {xs : List Nat} : ∀ {ys : List Str}, namesEq xs ys = true → ys = xs.map nmS := by
 induction xs with
 | nil => intro ys h; exact List.isEmpty_iff.mp h
 | cons x xs ih => intro ys h; cases ys with
  | nil => exact no h
  | cons y ys =>
   obtain ⟨h1, h2⟩ := and2 h
   rw [nmS_of h1, ih h2]; rfl
noncomputable def swapEq (xs : List Nat) : Option (List Str) → Bool
 | some ys => namesEq xs ys
 | none => false
theorem swapEq_eq {o : Option (List Str)} {xs : List Nat} (h : swapEq xs o = true) : o = some (xs.map nmS) := by
 cases o with
 | none => exact no h
 | some ys => rw [namesEq_eq h]
structure W where
 tag : Nat
 p : Pos
 a : Option PySem.Expr
 t : Option PySem.Expr
 l : List Stmt
 m : List Stmt
 h : Option (ExceptHandler × List ExceptHandler)
noncomputable def sw (x : Stmt) : W := match x with
 | .Pass p => ⟨1, p, none, none, [], [], none⟩
 | .Return none p => ⟨2, p, none, none, [], [], none⟩
 | .Return (some e) p => ⟨3, p, some e, none, [], [], none⟩
 | .Expr e p => ⟨4, p, some e, none, [], [], none⟩
 | .Assign [t] e p => ⟨5, p, some e, some t, [], [], none⟩
 | .Delete [t] p => ⟨6, p, none, some t, [], [], none⟩
 | .If t b e p => ⟨7, p, none, some t, b, e, none⟩
 | .While t b [] p => ⟨8, p, none, some t, b, [], none⟩
 | .For t it b [] p => ⟨9, p, some it, some t, b, [], none⟩
 | .Try b (h :: hs) [] [] p => ⟨10, p, none, none, b, [], some (h, hs)⟩
 | _ => ⟨0, ⟨0, 0, 0, 0⟩, none, none, [], [], none⟩
noncomputable def sk (t : Nat) (w : W) (x : Stmt) : Stmt := match t with
 | 1 => .Pass w.p
 | 2 => .Return none w.p
 | 3 => (match w.a with | some e => .Return (some e) w.p | none => x)
 | 4 => (match w.a with | some e => .Expr e w.p | none => x)
 | 5 => (match w.a with | some e => (match w.t with | some t => .Assign [t] e w.p | none => x) | none => x)
 | 6 => (match w.t with | some t => .Delete [t] w.p | none => x)
 | 7 => (match w.t with | some t => .If t w.l w.m w.p | none => x)
 | 8 => (match w.t with | some t => .While t w.l [] w.p | none => x)
 | 9 => (match w.a with | some e => (match w.t with | some t => .For t e w.l [] w.p | none => x) | none => x)
 | 10 => (match w.h with | some h => .Try w.l (h.1 :: h.2) [] [] w.p | none => x)
 | _ => x
theorem sk_ok (x : Stmt) : x = sk (sw x).tag (sw x) x := by
 cases x with
 | Return e p => cases e <;> rfl
 | Assign ts e p => cases ts with
  | nil => rfl
  | cons t ts => cases ts <;> rfl
 | Delete ts p => cases ts with
  | nil => rfl
  | cons t ts => cases ts <;> rfl
 | While t b e p => cases e <;> rfl
 | For t it b e p => cases e <;> rfl
 | Try b hs e f p => cases hs with
  | nil => rfl
  | cons h hs => cases e with
   | cons => rfl
   | nil => cases f <;> rfl
 | _ => rfl
theorem sinv {x : Stmt} {t : Nat} (h : Nat.beq (sw x).tag t = true) : x = sk t (sw x) x := (sk_ok x).trans (by rw [Nat.eq_of_beq_eq_true h])
noncomputable def onE (f : PySem.Expr → Bool) : Option PySem.Expr → Bool
 | some e => f e
 | none => false
theorem onE_ok {f : PySem.Expr → Bool} {o : Option PySem.Expr} (h : onE f o = true) : ∃ e, o = some e ∧ f e = true := by
 cases o with
 | none => exact no h
 | some e => exact ⟨e, rfl, h⟩
mutual
noncomputable def chkSt : PS → Kd → Stmt → Bool
 | .bad, _, _ => true
 | .pass, _, x => Nat.beq (sw x).tag 1
 | .ret0, _, x => Nat.beq (sw x).tag 2
 | .ret e, kd, x => Nat.beq (sw x).tag 3 && onE (chkE e kd) (sw x).a
 | .expr e, kd, x => Nat.beq (sw x).tag 4 && onE (fun e' => notComp e' && chkE e kd e') (sw x).a
 | .asg n e, kd, x => Nat.beq (sw x).tag 5 && (onE (fun e' => (notComp e' || kd (nmS n) == some .cell) && chkE e kd e') (sw x).a && onE (chkName kd n) (sw x).t)
 | .asgC n v xs it ifs, kd, x => Nat.beq (sw x).tag 5 && onE (fun e' => chkE (.listc v xs it ifs) kd e' && onE (fun t => chkName kd n t && swp kd e' (nmS n) t.pos) (sw x).t) (sw x).a
 | .asgA o a e, kd, x => Nat.beq (sw x).tag 5 && (onE (chkE e kd) (sw x).a && onE (fun t => Nat.beq (vw t).tag 7 && (chkN a (vw t).s && chkE o kd (vw t).a)) (sw x).t)
 | .asgS o i e, kd, x => Nat.beq (sw x).tag 5 && (onE (fun e' => notComp e' && chkE e kd e') (sw x).a && onE (fun t => Nat.beq (vw t).tag 15 && (chkE o kd (vw t).a && chkE i kd (vw t).b)) (sw x).t)
 | .asgT xs e, kd, x => Nat.beq (sw x).tag 5 && (onE (fun e' => notTup e' && chkE e kd e') (sw x).a && onE (fun t => Nat.beq (vw t).tag 19 && (Nat.ble 2 xs.length && chkNs kd xs (vw t).l)) (sw x).t)
 | .asgW xs e, kd, x => Nat.beq (sw x).tag 5 && (onE (fun e' => Nat.beq (vw e').tag 19 && (chkE e kd e' && onE (fun t => Nat.beq (vw t).tag 19 && swapEq xs (swapB kd (vw t).l (vw e').l)) (sw x).t)) (sw x).a)
 | .delS o i, kd, x => Nat.beq (sw x).tag 6 && onE (fun t => Nat.beq (vw t).tag 15 && (chkE o kd (vw t).a && chkE i kd (vw t).b)) (sw x).t
 | .ite t b e, kd, x => Nat.beq (sw x).tag 7 && (onE (chkE t kd) (sw x).t && (chkSs b kd (sw x).l && chkSs e kd (sw x).m))
 | .whl t b, kd, x => Nat.beq (sw x).tag 8 && (onE (chkE t kd) (sw x).t && chkSs b kd (sw x).l)
 | .for1 xs it b, kd, x => Nat.beq (sw x).tag 9 && (onE (fun e => notSet e && chkE it kd e) (sw x).a && (onE (chkT kd xs) (sw x).t && chkSs b kd (sw x).l))
 | .try b _ _ _, kd, x => Nat.beq (sw x).tag 10 && ((sw x).h.isSome && chkSs b kd (sw x).l)
 | .raise _, _, _ => false
 | .reraise, _, _ => false
noncomputable def chkSs : PSs → Kd → List Stmt → Bool
 | .nil, _, l => l.isEmpty
 | .cons e l, kd, x => (match x with | e' :: l' => chkSt e kd e' && chkSs l kd l' | [] => false)
end
theorem inv5 {x : Stmt} {e t : PySem.Expr} (h : Nat.beq (sw x).tag 5 = true) (q1 : (sw x).a = some e) (q2 : (sw x).t = some t) : x = .Assign [t] e (sw x).p := by
 have z : x = (match (sw x).a with | some e => (match (sw x).t with | some t => .Assign [t] e (sw x).p | none => x) | none => x) := sinv h
 rw [q1, q2] at z
 exact z
mutual
theorem chkSt_ok : ∀ (p : PS) {kd : Kd} {x : Stmt}, chkSt p kd x = true → MS p kd x
 | .bad, _, _, _ => trivial
 | .pass, kd, x, h => ⟨_, sinv h⟩
 | .ret0, kd, x, h => ⟨_, sinv h⟩
 | .ret e, kd, x, h => by
  obtain ⟨h1, h2⟩ := and2 h
  obtain ⟨e', q, h2⟩ := onE_ok h2
  have z : x = (match (sw x).a with | some e => .Return (some e) (sw x).p | none => x) := sinv h1
  rw [q] at z
  exact ⟨_, _, z, chkE_ok e h2⟩
 | .expr e, kd, x, h => by
  obtain ⟨h1, h2⟩ := and2 h
  obtain ⟨e', q, h2⟩ := onE_ok h2
  obtain ⟨h2, h3⟩ := and2 h2
  have z : x = (match (sw x).a with | some e => .Expr e (sw x).p | none => x) := sinv h1
  rw [q] at z
  exact ⟨_, _, z, chkE_ok e h3, h2⟩
 | .asg n e, kd, x, h => by
  obtain ⟨h1, h2⟩ := and2 h
  obtain ⟨h2, h3⟩ := and2 h2
  obtain ⟨e', q, h2⟩ := onE_ok h2
  obtain ⟨t', q', h3⟩ := onE_ok h3
  obtain ⟨h2, h4⟩ := and2 h2
  obtain ⟨np, rfl, h5⟩ := chkName_ok h3
  exact ⟨np, e', _, inv5 h1 q q', chkE_ok e h4, ((Bool.or_eq_true _ _).mp h2).imp id eq_of_beq, h5⟩
 | .asgC n v xs it ifs, kd, x, h => by
  obtain ⟨h1, h2⟩ := and2 h
  obtain ⟨e', q, h2⟩ := onE_ok h2
  obtain ⟨h2, h3⟩ := and2 h2
  obtain ⟨t', q', h3⟩ := onE_ok h3
  obtain ⟨h3, h4⟩ := and2 h3
  obtain ⟨np, rfl, h5⟩ := chkName_ok h3
  exact ⟨np, e', _, inv5 h1 q q', chkE_ok (.listc v xs it ifs) h2, h4⟩
 | .asgA o a e, kd, x, h => by
  obtain ⟨h1, h2⟩ := and2 h
  obtain ⟨h2, h3⟩ := and2 h2
  obtain ⟨e', q, h2⟩ := onE_ok h2
  obtain ⟨t', q', h3⟩ := onE_ok h3
  obtain ⟨h3, h4⟩ := and2 h3
  obtain ⟨h4, h5⟩ := and2 h4
  have z : t' = .Attribute _ (vw t').s _ := inv h3
  rw [nmS_of h4] at z
  exact ⟨_, _, _, _, (inv5 h1 q q').trans (congrArg (fun t => Stmt.Assign [t] _ _) z), chkE_ok o h5, chkE_ok e h2⟩
 | .asgS o i e, kd, x, h => by
  obtain ⟨h1, h2⟩ := and2 h
  obtain ⟨h2, h3⟩ := and2 h2
  obtain ⟨e', q, h2⟩ := onE_ok h2
  obtain ⟨t', q', h3⟩ := onE_ok h3
  obtain ⟨h2, h6⟩ := and2 h2
  obtain ⟨h3, h4⟩ := and2 h3
  obtain ⟨h4, h5⟩ := and2 h4
  exact ⟨_, _, _, _, _, (inv5 h1 q q').trans (congrArg (fun t => Stmt.Assign [t] _ _) (inv h3)), chkE_ok o h4, chkE_ok i h5, chkE_ok e h6, h2⟩
 | .asgT xs e, kd, x, h => by
  obtain ⟨h1, h2⟩ := and2 h
  obtain ⟨h2, h3⟩ := and2 h2
  obtain ⟨e', q, h2⟩ := onE_ok h2
  obtain ⟨t', q', h3⟩ := onE_ok h3
  obtain ⟨h2, h6⟩ := and2 h2
  obtain ⟨h3, h4⟩ := and2 h3
  obtain ⟨h4, h5⟩ := and2 h4
  exact ⟨_, _, _, _, _, (inv5 h1 q q').trans (congrArg (fun t => Stmt.Assign [t] _ _) (inv h3)), chkE_ok e h6, chkNs_ok h5, Nat.le_of_ble_eq_true h4, h2⟩
 | .asgW xs e, kd, x, h => by
  obtain ⟨h1, h2⟩ := and2 h
  obtain ⟨e', q, h2⟩ := onE_ok h2
  obtain ⟨h2, h3⟩ := and2 h2
  obtain ⟨h3, h4⟩ := and2 h3
  obtain ⟨t', q', h4⟩ := onE_ok h4
  obtain ⟨h4, h5⟩ := and2 h4
  have z : e' = .Tuple _ _ _ := inv h2
  have m := chkE_ok e h3
  have y := inv5 h1 q q'
  rw [z] at m
  exact ⟨_, _, _, _, _, _, _, y.trans ((congrArg (fun t => Stmt.Assign [t] _ _) (inv h4)).trans (congrArg (fun t => Stmt.Assign _ t _) z)), m, swapEq_eq h5⟩
 | .delS o i, kd, x, h => by
  obtain ⟨h1, h2⟩ := and2 h
  obtain ⟨t', q', h3⟩ := onE_ok h2
  obtain ⟨h3, h4⟩ := and2 h3
  obtain ⟨h4, h5⟩ := and2 h4
  have z : x = (match (sw x).t with | some t => .Delete [t] (sw x).p | none => x) := sinv h1
  rw [q'] at z
  exact ⟨_, _, _, _, z.trans (congrArg (fun t => Stmt.Delete [t] _) (inv h3)), chkE_ok o h4, chkE_ok i h5⟩
 | .ite t b e, kd, x, h => by
  obtain ⟨h1, h2⟩ := and2 h
  obtain ⟨h2, h3⟩ := and2 h2
  obtain ⟨h3, h4⟩ := and2 h3
  obtain ⟨t', q', h2⟩ := onE_ok h2
  have z : x = (match (sw x).t with | some t => .If t (sw x).l (sw x).m (sw x).p | none => x) := sinv h1
  rw [q'] at z
  exact ⟨_, _, _, _, z, chkE_ok t h2, chkSs_ok b h3, chkSs_ok e h4⟩
 | .whl t b, kd, x, h => by
  obtain ⟨h1, h2⟩ := and2 h
  obtain ⟨h2, h3⟩ := and2 h2
  obtain ⟨t', q', h2⟩ := onE_ok h2
  have z : x = (match (sw x).t with | some t => .While t (sw x).l [] (sw x).p | none => x) := sinv h1
  rw [q'] at z
  exact ⟨_, _, _, z, chkE_ok t h2, chkSs_ok b h3⟩
 | .for1 xs it b, kd, x, h => by
  obtain ⟨h1, h2⟩ := and2 h
  obtain ⟨h2, h3⟩ := and2 h2
  obtain ⟨h3, h4⟩ := and2 h3
  obtain ⟨e', q, h2⟩ := onE_ok h2
  obtain ⟨t', q', h3⟩ := onE_ok h3
  obtain ⟨h2, h5⟩ := and2 h2
  have z : x = (match (sw x).a with | some e => (match (sw x).t with | some t => .For t e (sw x).l [] (sw x).p | none => x) | none => x) := sinv h1
  rw [q, q'] at z
  exact ⟨_, _, _, _, z, chkT_ok h3, chkE_ok it h5, h2, chkSs_ok b h4⟩
 | .try b _ _ _, kd, x, h => by
  obtain ⟨h1, h2⟩ := and2 h
  obtain ⟨h2, h3⟩ := and2 h2
  obtain ⟨hh, q⟩ := Option.isSome_iff_exists.mp h2
  have z : x = (match (sw x).h with | some h => .Try (sw x).l (h.1 :: h.2) [] [] (sw x).p | none => x) := sinv h1
  rw [q] at z
  exact ⟨_, _, _, _, z, chkSs_ok b h3⟩
 | .raise _, _, _, h => no h
 | .reraise, _, _, h => no h
theorem chkSs_ok : ∀ (p : PSs) {kd : Kd} {x : List Stmt}, chkSs p kd x = true → MSs p kd x
 | .nil, kd, x, h => List.isEmpty_iff.mp h
 | .cons e l, kd, x, h => by
  cases x with
  | nil => exact no h
  | cons e' l' =>
   obtain ⟨h1, h2⟩ := and2 h
   exact ⟨_, _, rfl, chkSt_ok e h1, chkSs_ok l h2⟩
end
end Mine
end
section
open PySem PySem.W PyProof.Rows
namespace Mine
theorem peek_bind {α β : Type} {K : Frag} {S : Setting} {f : α → Sem β} {a : α} {m : Sem α} : peek K S m = some a → peek K S (m >>= f) = peek K S (f a) := by
 show peek K S m = some a → peek K S (Sem.bind m f) = _
 induction m with
 | pure b => intro h; cases h; rfl
 | rule r k ih => intro h; exact ih () h
 | point r k ih => intro h; exact ih () h
 | ask k ih => intro h; exact ih S h
 | load ad p k ih =>
  intro h
  have h : (match K.lookup ad with | some o => peek K S (k o) | none => none) = some a := by
   unfold peek at h; exact h
  cases q : K.lookup ad with
  | none => rw [q] at h; cases h
  | some o =>
   rw [q] at h
   refine Eq.trans ?_ (ih o h)
   rw [show Sem.bind (Sem.load ad p k) f = Sem.load ad p (fun o => Sem.bind (k o) f) from rfl]
   simp only [peek, q]
 | _ => intro h; cases h
theorem look_none {l : List (Str × Value)} {x : Str} (h : x ∉ l.map (·.1)) : l.lookup x = none := by
 induction l with
 | nil => rfl
 | cons p l ih =>
  rw [List.map_cons, List.mem_cons, not_or] at h
  rw [List.lookup_cons, beq_false_of_ne h.1]
  exact ih h.2
theorem look_gen (l : List (Str × Value)) : ∀ (pre : List (Str × Value)), (∀ p ∈ l, p.1 ∉ pre.map (·.1)) → (l.map (·.1)).Nodup → (l.map (·.1)).filterMap (fun n => ((pre ++ l).lookup n).map (n, ·)) = l := by
 induction l with
 | nil => intro pre _ _; rfl
 | cons p l ih =>
  obtain ⟨y, v⟩ := p
  intro pre h1 h2
  rw [List.map_cons, List.nodup_cons] at h2
  have e : (pre ++ (y, v) :: l).lookup y = some v := by
   rw [List.lookup_append, look_none (h1 (y, v) (.head _)), List.lookup_cons, beq_self_eq_true]; rfl
  rw [List.map_cons, List.filterMap_cons, e]
  have := ih (pre ++ [(y, v)]) (fun p hp => by
   rw [List.map_append, List.mem_append]
   rintro (h | h)
   ·exact h1 p (.tail _ hp) h
   ·have e : p.1 = y := List.mem_singleton.mp h
    have m : p.1 ∈ l.map (·.1) := List.mem_map_of_mem hp
    rw [e] at m
    exact h2.1 m) h2.2
  rw [List.append_assoc] at this
  exact congrArg ((y, v) :: ·) this
theorem bindV_zip {ps : List Nat} : ∀ {vals ds : List Value} {k : Nat} {b : List (Str × Value)}, bindV ps vals ds k = some b → vals.length ≤ ps.length ∧ (vals.length < ps.length → k ≤ vals.length) ∧ ∃ r r2, ds = r ++ r2 ∧ b = (ps.map nmS).zip (vals ++ r) ∧ r.length + vals.length = ps.length := by
 induction ps with
 | nil => intro vals ds k b e; cases vals with
  | nil => cases e; exact ⟨Nat.le_refl _, fun h => absurd h (Nat.lt_irrefl _), [], ds, rfl, rfl, rfl⟩
  | cons => cases e
 | cons x xs ih => intro vals ds k b e; cases vals with
  | cons a as =>
   have e : (match bindV xs as ds (k - 1) with | some l => some ((nmS x, a) :: l) | none => none) = some b := e
   cases q : bindV xs as ds (k - 1) with
   | none => rw [q] at e; cases e
   | some l =>
    rw [q] at e
    cases e
    obtain ⟨h1, h2, r, r2, h3, h4, h5⟩ := ih q
    refine ⟨Nat.succ_le_succ h1, fun h => ?_, r, r2, h3, by rw [h4]; rfl, by rw [List.length_cons, List.length_cons, ← h5]; rfl⟩
    have := h2 (Nat.lt_of_succ_lt_succ h)
    exact Nat.le_add_of_sub_le this
  | nil =>
   cases q : Nat.beq k 0 with
   | false =>
    have e : (match Nat.beq k 0 with | true => _ | false => none) = some b := e
    rw [q] at e; cases e
   | true => cases ds with
    | nil =>
     have e : (match Nat.beq k 0 with | true => none | false => none) = some b := e
     rw [q] at e; cases e
    | cons v ds =>
     have e : (match Nat.beq k 0 with | true => (match bindV xs [] ds 0 with | some l => some ((nmS x, v) :: l) | none => none) | false => none) = some b := e
     rw [q] at e
     cases q' : bindV xs [] ds 0 with
     | none => rw [q'] at e; cases e
     | some l =>
      rw [q'] at e
      cases e
      obtain ⟨h1, h2, r, r2, h3, h4, h5⟩ := ih q'
      exact ⟨Nat.zero_le _, fun _ => Nat.le_of_eq (Nat.eq_of_beq_eq_true q), v :: r, r2, by rw [h3]; rfl, by rw [h4]; rfl, by rw [List.length_cons, List.length_cons, ← h5]; rfl⟩
structure Plain (p : Arguments) (names : List Str) : Prop where
 po : p.posonlyargs = []
 args : p.args.map (·.arg) = names
 va : p.vararg = none
 ko : p.kwonlyargs = []
 kw : p.kwarg = none
noncomputable def fillG (s : List (Str × Value)) (p : Str × Value) : List (Str × Value) := if (s.lookup p.1).isNone then s ++ [p] else s
theorem fold_dfl (l : List (Str × Value)) : ∀ (sl : List (Str × Value)), (sl.map (·.1) ++ l.map (·.1)).Nodup → l.foldl fillG sl = sl ++ l := by
 induction l with
 | nil => intro sl _; exact (List.append_nil _).symm
 | cons p l ih =>
  intro sl nd
  have hn : p.1 ∉ sl.map (·.1) := fun h => (List.nodup_append.mp nd).2.2 p.1 h p.1 (.head _) rfl
  rw [List.foldl_cons, show fillG sl p = sl ++ [p] by unfold fillG; rw [look_none hn]; rfl, ih, List.append_assoc]
  ·rfl
  ·rw [List.map_append, List.append_assoc]; exact nd
theorem fold_skip (l : List (Str × Value)) (sl : List (Str × Value)) (h : ∀ p ∈ l, (sl.lookup p.1).isNone = false) : l.foldl fillG sl = sl := by
 induction l with
 | nil => rfl
 | cons p l ih =>
  rw [List.foldl_cons, show fillG sl p = sl by unfold fillG; rw [h p (.head _)]; rfl]
  exact ih fun p hp => h p (.tail _ hp)
theorem zip_has {x : Str} {names : List Str} : ∀ {vals : List Value}, x ∈ names.take vals.length → ((names.zip vals).lookup x).isNone = false := by
 induction names with
 | nil => intro vals h; rw [List.take_nil] at h; cases h
 | cons y names ih => intro vals h; cases vals with
  | nil => cases h
  | cons v vals =>
   rw [List.zip_cons_cons, List.lookup_cons]
   by_cases q : x = y
   ·rw [q, beq_self_eq_true]; rfl
   ·rw [beq_false_of_ne q]
    exact ih ((List.mem_cons.mp h).resolve_left q)
theorem zip_take' {α β : Type} (a : List α) : ∀ (b : List β), (a.take b.length).zip b = a.zip b := by
 induction a with
 | nil => intro b; rw [List.take_nil]
 | cons x a ih => intro b; cases b with
  | nil => rw [List.zip_nil_right, List.zip_nil_right]
  | cons y b => rw [List.length_cons, List.take_succ_cons, List.zip_cons_cons, List.zip_cons_cons, ih b]
theorem fst_zip' {α β : Type} (a : List α) : ∀ (b : List β), (a.zip b).map (·.1) = a.take b.length := by
 induction a with
 | nil => intro b; rw [List.take_nil]; rfl
 | cons x a ih => intro b; cases b with
  | nil => rfl
  | cons y b => rw [List.zip_cons_cons, List.map_cons, List.length_cons, List.take_succ_cons, ih b]
theorem drop_zip' {α β : Type} (n : Nat) : ∀ (a : List α) (b : List β), (a.zip b).drop n = (a.drop n).zip (b.drop n) ∧ (a.zip b).take n = (a.take n).zip (b.take n) := by
 induction n with
 | zero => exact fun a b => ⟨rfl, rfl⟩
 | succ n ih => intro a b; cases a with
  | nil => exact ⟨rfl, rfl⟩
  | cons x a => cases b with
   | nil => exact ⟨by rw [List.drop_nil, List.zip_nil_right, List.zip_nil_right, List.drop_nil], by rw [List.take_nil, List.zip_nil_right, List.zip_nil_right, List.take_nil]⟩
   | cons y b => exact ⟨(ih a b).1, congrArg ((x, y) :: ·) (ih a b).2⟩
theorem ar1 {d p v r r2 : Nat} (h : d - (v - (p - d)) = r + r2) (h5 : r + v = p) (km : p - d ≤ v) (hl : d ≤ p) : r2 = 0 := by omega
theorem ar2 {d p v : Nat} (km : p - d ≤ v) : p - d + (v - (p - d)) = v := Nat.add_sub_cancel' km
theorem bind_ok {K : Frag} {fd : FuncData} {ps : List Nat} {dv : List Value} (pl : Plain fd.params (ps.map nmS)) (nd : ps.Nodup) (hl : dv.length ≤ ps.length)
  (hd : ∀ S, ∃ o, peek K S (seqItems? fd.defaults) = some o ∧ (o.getD #[]).toList = dv) {vals : List Value} {b : List (Str × Value)}
  (hb : bindV ps vals (dv.drop (vals.length - (ps.length - dv.length))) (ps.length - dv.length) = some b) (S : Setting) : peek K S (bindArgs fd ⟨vals, []⟩) = some b := by
 obtain ⟨h1, h2, r, r2, h3, h4, h5⟩ := bindV_zip hb
 obtain ⟨od, g1, g2⟩ := hd S
 have nd' : (ps.map nmS).Nodup := List.Pairwise.map nmS (fun a b h e => h (nmS_inj e)) nd
 generalize hN : ps.map nmS = names at *
 have ln : names.length = ps.length := by rw [← hN, List.length_map]
 unfold bindArgs
 simp only [pl.po, pl.args, pl.ko, pl.va, pl.kw, List.map_nil, List.nil_append, List.append_nil, List.forIn_nil]
 rw [pure_bind]
 refine (peek_bind g1).trans ?_
 dsimp only
 rw [g2]
 have km : ps.length - dv.length ≤ vals.length := by
  rcases Nat.lt_or_ge vals.length ps.length with q | q
  ·exact h2 q
  ·exact Nat.le_trans (Nat.sub_le _ _) q
 have e0 : dv.drop (dv.length - names.length) = dv := by rw [Nat.sub_eq_zero_of_le (by rw [ln]; exact hl)]; rfl
 rw [e0]
 have miss : (List.filter (fun n => ((names.zip vals).lookup n).isNone) (names.take (names.length - dv.length))) = [] := by
  rw [List.filter_eq_nil_iff]
  intro x hx
  rw [zip_has]
  ·exact Bool.false_ne_true
  ·exact (List.take_subset_take_left names (by rw [ln]; exact km)) hx
 have fold : ∀ {f : Str × Value → List (Str × Value) → Sem (ForInStep (List (Str × Value)))} (l : List (Str × Value)), (∀ x b, f x b = pure (.yield (fillG b x))) → ∀ b, forIn l b f = pure (l.foldl fillG b) := by
  intro f l h
  induction l with
  | nil => exact fun b => rfl
  | cons x l ih => intro b; rw [List.forIn_cons, h x b]; exact ih _
 rw [if_neg (by simp; omega), if_neg (by rw [miss]; simp)]
 rw [fold _ (fun x b => by unfold fillG; split <;> rfl)]
 have hr2 : r2 = [] := by
  have := congrArg List.length h3
  rw [List.length_drop, List.length_append] at this
  exact List.eq_nil_of_length_eq_zero (ar1 this h5 km hl)
 subst hr2
 rw [List.append_nil] at h3
 have hfold : ((names.drop (names.length - dv.length)).zip dv).foldl fillG (names.zip vals) = names.zip (vals ++ r) := by
  have skip : ∀ p ∈ ((names.drop (names.length - dv.length)).zip dv).take (vals.length - (names.length - dv.length)), ((names.zip vals).lookup p.1).isNone = false := by
   intro p hp
   refine zip_has ?_
   rw [(drop_zip' _ _ _).2] at hp
   have := (List.of_mem_zip hp).1
   rw [List.take_drop] at this
   have := List.mem_of_mem_drop this
   rw [ar2 (by rw [ln]; exact km)] at this
   exact this
  rw [← List.take_append_drop (vals.length - (names.length - dv.length)) ((names.drop (names.length - dv.length)).zip dv), List.foldl_append, fold_skip _ _ skip]
  ·rw [(drop_zip' _ _ _).1, List.drop_drop, ln, h3, ar2 km, fold_dfl]
   ·conv => rhs; rw [← List.take_append_drop vals.length names, List.zip_append (by rw [List.length_take, ln]; exact Nat.min_eq_left h1)]
    rw [zip_take']
   ·rw [fst_zip', fst_zip']
    refine List.Nodup.sublist ?_ nd'
    conv => rhs; rw [← List.take_append_drop vals.length names]
    exact List.Sublist.append (List.Sublist.refl _) (List.take_sublist _ _)
 rw [hfold]
 show some ((names.filterMap fun n => Option.map (fun x => (n, x)) ((names.zip (vals ++ r)).lookup n))) = some b
 have lz : names.length = (vals ++ r).length := by rw [List.length_append, ln, Nat.add_comm]; exact h5.symm
 have := look_gen (names.zip (vals ++ r)) [] (fun p hp => by simp) (by rw [List.map_fst_zip (Nat.le_of_eq lz)]; exact nd')
 rw [List.map_fst_zip (Nat.le_of_eq lz)] at this
 rw [h4]
 exact congrArg some this
end Mine
end
section
open PySem PySem.W PyProof.Rows
namespace Mine
noncomputable def isV (a : AV) (v : Value) : Bool := match a with
 | .none => (match v with | .none => true | _ => false)
 | .bool b => (match v with | .bool b' => decide (b' = b) | _ => false)
 | .int i => (match v with | .int j _ => decide (j = i) | _ => false)
 | .str s => (match v with | .str x _ => decide (s = x.cps.toList) | _ => false)
 | .obj a => (match v with | .ref b => Nat.beq a b | _ => false)
 | .typ t => (match v with | .type x => x == t.nm | _ => false)
 | .bi f => (match v with | .builtin x => x == f.id | _ => false)
 | .ref _ => false
theorem isV_ok {a : AV} {v : Value} (h : isV a v = true) : VR 0 (fun _ => 0) a v := by
 cases a with
 | none => cases v <;> first | exact no h | rfl
 | bool b =>
  cases v <;> first | exact no h | skip
  exact congrArg Value.bool (of_decide_eq_true h)
 | int i =>
  cases v <;> first | exact no h | skip
  exact ⟨_, congrArg (Value.int · _) (of_decide_eq_true h)⟩
 | str s =>
  cases v <;> first | exact no h | skip
  have := of_decide_eq_true h; subst this
  exact ⟨_, rfl⟩
 | obj a =>
  cases v <;> first | exact no h | skip
  exact congrArg Value.ref (Nat.eq_of_beq_eq_true h).symm
 | typ t =>
  cases v <;> first | exact no h | skip
  exact congrArg Value.type (eq_of_beq h)
 | bi f =>
  cases v <;> first | exact no h | skip
  exact congrArg Value.builtin (eq_of_beq h)
 | ref => exact no h
noncomputable def isVs : List AV → List Value → Bool
 | [], l => l.isEmpty
 | a :: as, l => (match l with | v :: vs => isV a v && isVs as vs | [] => false)
theorem isVs_ok {a : List AV} : ∀ {v : List Value}, isVs a v = true → VRs 0 (fun _ => 0) a v := by
 induction a with
 | nil => intro v h; rw [List.isEmpty_iff.mp h]; trivial
 | cons a as ih => intro v h; cases v with
  | nil => exact no h
  | cons v vs => obtain ⟨h1, h2⟩ := and2 h; exact ⟨isV_ok h1, ih h2⟩
theorem lk_mem {α : Type} {l : List (Nat × α)} {x : Nat} {v : α} (e : lk l x = some v) : (x, v) ∈ l := by
 induction l with
 | nil => cases e
 | cons p l ih =>
  obtain ⟨k, w⟩ := p
  rw [lk_cons] at e
  by_cases q : k = x
  ·rw [if_pos q] at e; cases e; subst q; exact .head _
  ·rw [if_neg q] at e; exact .tail _ (ih e)
theorem all_ok {α : Type} {p : α → Bool} {l : List α} (h : l.all p = true) {x : α} (m : x ∈ l) : p x = true := List.all_eq_true.mp h x m
noncomputable def glbOk (K : Frag) (p : Nat × AV) : Bool := match nsIn K mainGlobals (nmS p.1) with
 | some (some val) => isV p.2 val
 | some none => (match bootBuiltins (nmS p.1) with
  | some val => isV p.2 val && !(nmS p.1 == ("__name__" : Str))
  | none => false)
 | none => false
theorem glbOk_ok {K : Frag} {x : Nat} {v : AV} (h : glbOk K (x, v) = true) : ∃ val, VR 0 (fun _ => 0) v val ∧ (nsIn K mainGlobals (nmS x) = some (some val) ∨ (nsIn K mainGlobals (nmS x) = some none ∧ bootBuiltins (nmS x) = some val ∧ nmS x ≠ "__name__")) := by
 unfold glbOk at h
 cases q : nsIn K mainGlobals (nmS x) with
 | none => rw [q] at h; exact no h
 | some o => cases o with
  | some val => rw [q] at h; exact ⟨val, isV_ok h, .inl rfl⟩
  | none =>
   rw [q] at h
   cases q' : bootBuiltins (nmS x) with
   | none => rw [q'] at h; exact no h
   | some val =>
    rw [q'] at h
    obtain ⟨h1, h2⟩ := and2 h
    exact ⟨val, isV_ok h1, .inr ⟨rfl, rfl, fun z => by have := not_t h2; rw [z] at this; cases this⟩⟩
noncomputable def isBi (r : Option (Option Value)) (id : String) : Bool := match r with
 | some (some (.builtin x)) => x == id
 | _ => false
theorem isBi_ok {r : Option (Option Value)} {id : String} (h : isBi r id = true) : r = some (some (.builtin id)) := by
 cases r with
 | none => exact no h
 | some r => cases r with
  | none => exact no h
  | some v => cases v <;> first | exact no h | exact congrArg (fun x => some (some (Value.builtin x))) (eq_of_beq h)
noncomputable def isNo (r : Option (Option Value)) : Bool := match r with
 | some none => true
 | _ => false
theorem isNo_ok {r : Option (Option Value)} (h : isNo r = true) : r = some none := by
 cases r with
 | none => exact no h
 | some r => cases r with
  | none => rfl
  | some v => exact no h
noncomputable def isRf (r : Option (Option Value)) (f : Nat) : Bool := match r with
 | some (some (.ref x)) => Nat.beq x f
 | _ => false
theorem isRf_ok {r : Option (Option Value)} {f : Nat} (h : isRf r f = true) : r = some (some (.ref f)) := by
 cases r with
 | none => exact no h
 | some r => cases r with
  | none => exact no h
  | some v => cases v <;> first | exact no h | exact congrArg (fun x => some (some (Value.ref x))) (Nat.eq_of_beq_eq_true h)
noncomputable def methOk (K : Frag) (C : Nat) (flds : List Nat) (p : Nat × Nat) : Bool := isRf (findIn K (.ref C) (nmS p.1)) p.2 && ((typeIn K (.ref p.2) == some (.type "function")) && (keepIn K (.ref p.2) && !flds.contains p.1))
noncomputable def hasD (o : Option ClassData) : Bool := match o with
 | some cd => cd.hasDict
 | none => false
noncomputable def clsOk (K : Frag) (C : Nat) (ci : CI) : Bool :=
 isBi (findIn K (.ref C) "__getattribute__") "object.__getattribute__" && (isNo (findIn K (.ref C) "__getattr__") && (isBi (findIn K (.ref C) "__setattr__") "object.__setattr__" && (plainOver K C && (makesIn K C && (keepIn K (.ref C) &&
  (hasD (clsIn K C) && (ci.flds.all (fun a => isNo (findIn K (.ref C) (nmS a))) && ci.meths.all (methOk K C ci.flds))))))))
theorem clsOk_ok {K : Frag} {C : Nat} {ci : CI} (h : clsOk K C ci = true) : ClsOk K C ci := by
 obtain ⟨h1, h⟩ := and2 h
 obtain ⟨h2, h⟩ := and2 h
 obtain ⟨h3, h⟩ := and2 h
 obtain ⟨h4, h⟩ := and2 h
 obtain ⟨h5, h⟩ := and2 h
 obtain ⟨h6, h⟩ := and2 h
 obtain ⟨h7, h⟩ := and2 h
 obtain ⟨h8, h9⟩ := and2 h
 refine ⟨isBi_ok h1, isNo_ok h2, isBi_ok h3, h4, h5, h6, ?_, fun a ha => isNo_ok (all_ok h8 (List.contains_iff_mem.mp ha)), fun m f hm => ?_⟩
 ·cases q : clsIn K C with
  | none => rw [q] at h7; exact no h7
  | some cd => rw [q] at h7; exact ⟨cd, rfl, h7⟩
 ·obtain ⟨g1, g⟩ := and2 (all_ok h9 (lk_mem hm))
  obtain ⟨g2, g⟩ := and2 g
  obtain ⟨g3, g4⟩ := and2 g
  exact ⟨isRf_ok g1, eq_of_beq g2, g3, not_t g4⟩
noncomputable def dflOf (K : Frag) (v : Value) : Option (List Value) := match v with
 | .none => some []
 | .ref t => (match K.lookup t with
  | some ⟨_, _, .seq xs _, _⟩ => some xs.toList
  | _ => none)
 | _ => none
theorem dflOf_ok {K : Frag} {v : Value} {dv : List Value} (h : dflOf K v = some dv) (S : Setting) : ∃ o, peek K S (seqItems? v) = some o ∧ (o.getD #[]).toList = dv := by
 cases v with
 | none => cases h; exact ⟨none, rfl, rfl⟩
 | ref t =>
  have h : (match K.lookup t with | some ⟨_, _, .seq xs _, _⟩ => some xs.toList | _ => none) = some dv := h
  cases q : K.lookup t with
  | none => rw [q] at h; cases h
  | some o =>
   rw [q] at h
   obtain ⟨c, d, data, sl⟩ := o
   cases data <;> first | cases h; done | skip
   rename_i xs k
   cases h
   refine ⟨some xs, ?_, rfl⟩
   unfold seqItems?
   show peek K S (load t >>= fun o => _) = _
   unfold load
   simp only [bind, Sem.bind, peek, q]
   rfl
 | _ => cases h
noncomputable def nodupB : List Nat → Bool
 | [] => true
 | x :: l => !l.contains x && nodupB l
theorem nodupB_ok {l : List Nat} (h : nodupB l = true) : l.Nodup := by
 induction l with
 | nil => exact .nil
 | cons x l ih =>
  obtain ⟨h1, h2⟩ := and2 h
  exact List.nodup_cons.mpr ⟨fun z => (by rw [List.contains_iff_mem.mpr z] at h1; cases h1), ih h2⟩
theorem mine_ok {k : Option NameKind} (h : mine? k = true) : k = some .local ∨ k = some .cell := by
 cases k with
 | none => exact no h
 | some k => cases k <;> first | exact no h | exact .inl rfl | exact .inr rfl
noncomputable def fdOk (K : Frag) (fi : FI) (fd : FuncData) : Bool := match fd.body with
 | .stmts body => (match dflOf K fd.defaults with
  | some dv => fd.closure.isEmpty && (codeIn K fd.code fd.qualname && (decide (fd.scope.kind = .function) && (!fd.scope.isCoroutine && (!fd.scope.isGenerator && (Nat.beq fd.globals mainGlobals && (Nat.beq fd.builtins builtinsNs &&
   (chkSs fi.body (fun x => fd.scope.names.lookup x) body && (isVs fi.dfl dv && (nodupB fi.params && (fi.params.all (fun x => mine? (fd.scope.names.lookup (nmS x))) &&
    (Nat.ble fi.dfl.length fi.params.length && (fd.params.posonlyargs.isEmpty && (fd.params.vararg.isNone && (fd.params.kwonlyargs.isEmpty && (fd.params.kwarg.isNone && namesEq fi.params (fd.params.args.map (·.arg)))))))))))))))))
  | none => false)
 | _ => false
noncomputable def fnOk (K : Frag) (a : Nat) (fi : FI) : Bool := match K.lookup a with
 | some ⟨_, _, .func fd, _⟩ => keepIn K (.ref a) && fdOk K fi fd
 | _ => false
theorem fdOk_ok {K : Frag} {fi : FI} {fd : FuncData} {a : Nat} {o : Obj} (q : K.lookup a = some o) (qd : o.data = .func fd) (h : fdOk K fi fd = true) : FnOk K a fi := by
 unfold fdOk at h
 cases e1 : fd.body <;> first | (rw [e1] at h; exact no h) | skip
 rename_i body
 rw [e1] at h
 cases e3 : dflOf K fd.defaults with
 | none => rw [e3] at h; exact no h
 | some dv =>
  rw [e3] at h
  obtain ⟨e2, h⟩ := and2 h
  obtain ⟨h1, h⟩ := and2 h
  obtain ⟨h2, h⟩ := and2 h
  obtain ⟨h3, h⟩ := and2 h
  obtain ⟨h4, h⟩ := and2 h
  obtain ⟨h5, h⟩ := and2 h
  obtain ⟨h6, h⟩ := and2 h
  obtain ⟨h7, h⟩ := and2 h
  obtain ⟨h8, h⟩ := and2 h
  obtain ⟨h9, h⟩ := and2 h
  obtain ⟨h10, h⟩ := and2 h
  obtain ⟨h12, h⟩ := and2 h
  obtain ⟨p1, h⟩ := and2 h
  obtain ⟨p2, h⟩ := and2 h
  obtain ⟨p3, h⟩ := and2 h
  obtain ⟨p4, p5⟩ := and2 h
  have lv := (isVs_ok h8).len
  refine ⟨_, fd, body, dv, q, qd, e1, h1, List.isEmpty_iff.mp e2, of_decide_eq_true h2, not_t h3, not_t h4, Nat.eq_of_beq_eq_true h5, Nat.eq_of_beq_eq_true h6, chkSs_ok _ h7, isVs_ok h8, nodupB_ok h9, fun x hx => mine_ok (all_ok h10 hx), fun vals b hb S => ?_⟩
  rw [lv] at hb
  exact bind_ok ⟨List.isEmpty_iff.mp p1, namesEq_eq p5, Option.isNone_iff_eq_none.mp p2, List.isEmpty_iff.mp p3, Option.isNone_iff_eq_none.mp p4⟩ (nodupB_ok h9) (by rw [← lv]; exact Nat.le_of_ble_eq_true h12) (fun S => dflOf_ok e3 S) hb S
theorem fnOk_ok {K : Frag} {a : Nat} {fi : FI} (h : fnOk K a fi = true) : FnOk K a fi ∧ keepIn K (.ref a) = true := by
 unfold fnOk at h
 cases q : K.lookup a with
 | none => rw [q] at h; exact no h
 | some o =>
  rw [q] at h
  obtain ⟨c, d, data, sl⟩ := o
  cases data <;> first | exact no h | skip
  obtain ⟨h1, h2⟩ := and2 h
  exact ⟨fdOk_ok q rfl h2, h1⟩
noncomputable def topOk (K : Frag) (a : Nat) (xs : List AV) : Bool := match K.lookup a with
 | some o => (o.cls == .type "tuple") && (o.dict.isNone && (o.slots.isEmpty && (match o.data with | .seq vs _ => isVs xs vs.toList | _ => false)))
 | none => false
theorem topOk_ok {K : Frag} {a : Nat} {xs : List AV} (h : topOk K a xs = true) : ∃ vs k, K.lookup a = some { cls := .type "tuple", data := .seq vs.toArray k } ∧ VRs 0 (fun _ => 0) xs vs := by
 unfold topOk at h
 cases q : K.lookup a with
 | none => rw [q] at h; exact no h
 | some o =>
  rw [q] at h
  obtain ⟨c, d, data, sl⟩ := o
  obtain ⟨h1, h2⟩ := and2 h
  obtain ⟨h2, h3⟩ := and2 h2
  obtain ⟨h3, h4⟩ := and2 h3
  have key : ∃ vs k, data = .seq vs k ∧ isVs xs vs.toList = true := by
   cases data <;> first | exact no h4 | exact ⟨_, _, rfl, h4⟩
  obtain ⟨vs, k, rfl, h5⟩ := key
  refine ⟨vs.toList, k, ?_, isVs_ok h5⟩
  rw [show c = .type "tuple" from eq_of_beq h1, show d = none from Option.isNone_iff_eq_none.mp h2, show sl = #[] by simpa using h3]
structure TabOk (K : Frag) (G : Tab) : Prop where
 glb : G.glb.all (glbOk K) = true
 cls : ∀ p ∈ G.cls, clsOk K p.1 p.2 = true
 fns : ∀ p ∈ G.fns, fnOk K p.1 p.2 = true
 top : ∀ p ∈ G.top, topOk K p.1 p.2 = true
theorem Ok.of {c : Cx} {mg mb : Str → Option Value} (X : c.K.In c.hb) (nl : c.hb.NoLimit) (hg : c.hb.Ns mainGlobals mg) (hb : c.hb.Ns builtinsNs mb) (hbb : ∀ x : Str, x ≠ "__name__" → mb x = bootBuiltins x) (sys : Live c.hb sysModules) (t : TabOk c.K c.G) : Ok c where
 k := X
 nolim := nl
 cls := fun C ci e => clsOk_ok (t.cls _ (lk_mem e))
 fns := fun a fi e => (fnOk_ok (t.fns _ (lk_mem e))).1
 keepF := fun a fi e => (fnOk_ok (t.fns _ (lk_mem e))).2
 nss := ⟨mg, mb, hg, hb, hbb⟩
 glb := fun x v e => glbOk_ok (all_ok t.glb (lk_mem e))
 top := fun a xs e => by
  obtain ⟨vs, k, h2, h3⟩ := topOk_ok (t.top _ (lk_mem e))
  exact ⟨vs, k, X _ _ h2, h3⟩
 sysm := sys
end Mine
end
section
open PySem PySem.W PyProof.Rows
namespace Mine
theorem well_ints {P : Params} {h : Heap} {ns : List Int} : ∀ {vs : List Value}, WellAll P h vs (ofPys (ns.map PyData.int)) → VRs 0 (fun _ => 0) (ns.map .int) vs := by
 induction ns with
 | nil => intro vs w; cases w; trivial
 | cons n ns ih =>
  intro vs w
  cases w with
  | cons w1 w2 =>
   cases w1
   exact ⟨⟨_, rfl⟩, ih w2⟩
noncomputable def lay0 (ns : List Int) : Hp := ⟨fun _ => some (.list (ns.map .int)), 1⟩
theorem lay0_get (ns : List Int) : (lay0 ns).get 0 = some (.list (ns.map .int)) := rfl
theorem start {c : Cx} {P : Params} {ns : List Int} {L : Addr} (w : Well P c.hb (.ref L) (ofPy (PyData.list (ns.map PyData.int)))) : HR c (fun _ => L) (fun _ => L) (lay0 ns) (lay0 ns).n c.hb := by
 cases w with
 | list h1 h2 =>
  refine ⟨fun b o e => e, fun i o e => ?_, fun i h1 h2 => absurd h1 (Nat.not_le.mpr h2), fun i j h1 h2 ne => absurd ((Nat.lt_one_iff.mp h1).trans (Nat.lt_one_iff.mp h2).symm) ne, fun i hi => ⟨⟨_, h1⟩, ⟨_, h1⟩⟩, Nat.le_refl _, fun i hi => ⟨⟨_, h1⟩, ⟨_, h1⟩⟩⟩
  have lt := lt_of_get e
  have : i = 0 := Nat.lt_one_iff.mp lt
  subst this
  cases e
  exact ⟨lt, _, 0, h1, (well_ints h2).up (Nat.zero_le _) fun i q => absurd q (Nat.not_lt_zero i)⟩
theorem law_call {c : Cx} {d a : Nat} {A : Around} {s : Shared} {P : Params} {ns : List Int} {L : Addr} {T' : Hp} {Q E : Value → Shared → Prop} (hs : s.heap = c.hb) (w : Well P c.hb (.ref L) (ofPy (PyData.list (ns.map PyData.int))))
  (he : Ca c a [.ref 0] d (lay0 ns) (.bool true) T') (ro : Room d A)
  (hq : ∀ h' t', (∀ b ob, c.hb.get? b = some ob → h'.get? b = some ob) → Q (.bool true) (Sh s h' t')) : wpAny (model c.prog c.w) A (call (.ref a) [.ref L]) Q E s := by
 refine wpAny_call (he A s (fun _ => L) (fun _ => L) _ [.ref L] ⟨⟨Nat.one_pos, rfl⟩, trivial⟩ (by rw [hs]; exact start w) ro ?_)
 intro ρ' δ' h' t' val g r vr
 cases vr
 exact hq h' t' r.base
noncomputable def Upd (n : Nat) (P : Nat → AO → Prop) (T T' : Hp) : Prop := T.n ≤ T'.n ∧ ∀ r a, r < n → P r a → T.get r = some a → T'.get r = some a
theorem get_off (T : Hp) {o : AO} {r x : Nat} (ne : x ≠ r) : (hput T r o).get x = T.get x := by
 show (if x < T.n then (if x = r then some o else T.m x) else none) = if x < T.n then T.m x else none
 rw [if_neg ne]
section
variable {n m : Nat} {P Q : Nat → AO → Prop} {T T1 T2 : Hp} {o a : AO} {r x : Nat}
theorem Upd.refl : Upd n P T T := ⟨Nat.le_refl _, fun _ _ _ _ h => h⟩
theorem Upd.trans (u : Upd n P T T1) (v : Upd n P T1 T2) : Upd n P T T2 := ⟨Nat.le_trans u.1 v.1, fun r a q p h => v.2 r a q p (u.2 r a q p h)⟩
theorem Upd.new (u : Upd n P T T1) : Upd n P T (hnew T1 o) := ⟨Nat.le_succ_of_le u.1, fun r a q p h => get_old (u.2 r a q p h)⟩
theorem Upd.put (u : Upd n P T T1) (h : n ≤ r) : Upd n P T (hput T1 r o) := ⟨u.1, fun x a q p g => (get_off T1 (Nat.ne_of_lt (Nat.lt_of_lt_of_le q h))).trans (u.2 x a q p g)⟩
theorem Upd.set (u : Upd n P T T1) (h : T.get r = some o → ¬ P r o) (g : T.get r = some o) : Upd n P T (hput T1 r a) := ⟨u.1, fun x b q p k => by
 by_cases e : x = r
 ·subst e; rw [g] at k; cases k; exact absurd p (h g)
 ·exact (get_off T1 e).trans (u.2 x b q p k)⟩
theorem Upd.weak (u : Upd n P T T1) (le : m ≤ n) (h : ∀ r a, Q r a → P r a) : Upd m Q T T1 := ⟨u.1, fun r a q p g => u.2 r a (Nat.lt_of_lt_of_le q le) (h r a p) g⟩
theorem Upd.get (u : Upd T.n P T T1) (p : P r a) (g : T.get r = some a) : T1.get r = some a := u.2 r a (lt_of_get g) p g
end
noncomputable def All : Nat → AO → Prop := fun _ _ => True
section
variable (c : Cx) (d : Nat) (loc : Loc) (T : Hp)
noncomputable def EvP (e : PE) (Q : AV → Hp → Prop) : Prop := ∃ v T', Ev c e d loc T v T' ∧ Q v T'
noncomputable def EsP (l : PEs) (Q : List AV → Hp → Prop) : Prop := ∃ v T', Evs c l d loc T v T' ∧ Q v T'
noncomputable def TrP (e : PE) (Q : Bool → Hp → Prop) : Prop := ∃ t T', Tr c e d loc T t T' ∧ Q t T'
noncomputable def TsP (w : Bool) (l : PEs) (Q : Bool → Hp → Prop) : Prop := ∃ t T', Ts c w l d loc T t T' ∧ Q t T'
noncomputable def TeP (l : PEs) (Q : Bool → Hp → Prop) : Prop := ∃ t T', Te c l d loc T t T' ∧ Q t T'
noncomputable def PvP (l : PEs) (Q : List (AV × AV) → Hp → Prop) : Prop := ∃ t T', Pv c l d loc T t T' ∧ Q t T'
noncomputable def StP (s : PS) (N : Loc → Hp → Prop) (R : AV → Hp → Prop) : Prop := (∃ l T', St c s d loc T (.nxt l) T' ∧ N l T') ∨ (∃ v T', St c s d loc T (.ret v) T' ∧ R v T')
noncomputable def ExP (b : PSs) (N : Loc → Hp → Prop) (R : AV → Hp → Prop) : Prop := (∃ l T', Ex c b d loc T (.nxt l) T' ∧ N l T') ∨ (∃ v T', Ex c b d loc T (.ret v) T' ∧ R v T')
noncomputable def LoP (xs : List Nat) (src : Nat) (ik : IK) (i : Nat) (b : PSs) (N : Loc → Hp → Prop) (R : AV → Hp → Prop) : Prop := (∃ l T', Lo c xs src ik i b d loc T (.nxt l) T' ∧ N l T') ∨ (∃ v T', Lo c xs src ik i b d loc T (.ret v) T' ∧ R v T')
noncomputable def WlP (t : PE) (b : PSs) (N : Loc → Hp → Prop) (R : AV → Hp → Prop) : Prop := (∃ l T', Wl c t b d loc T (.nxt l) T' ∧ N l T') ∨ (∃ v T', Wl c t b d loc T (.ret v) T' ∧ R v T')
noncomputable def CoP (ck : CK) (acc : Nat) (xs : List Nat) (src : Nat) (ik : IK) (i : Nat) (ifs : PEs) (Q : Hp → Prop) : Prop := ∃ T', Co c ck acc xs src ik i ifs d loc T T' ∧ Q T'
end
section
variable (c : Cx) (T : Hp)
noncomputable def CaP (a : Nat) (args : List AV) (d : Nat) (Q : AV → Hp → Prop) : Prop := ∃ v T', Ca c a args d T v T' ∧ Q v T'
noncomputable def BcP (f : AV) (args : List AV) (d : Nat) (Q : AV → Hp → Prop) : Prop := ∃ v T', Bc c f args d T v T' ∧ Q v T'
noncomputable def BmP (id : String) (o : AV) (args : List AV) (d : Nat) (Q : AV → Hp → Prop) : Prop := ∃ v T', Bm c id o args d T v T' ∧ Q v T'
noncomputable def BgP (o : AV) (m : Nat) (K : String → Prop) : Prop := ∃ id, Bg c o m id T ∧ K id
noncomputable def BiP (op : Bop) (a b : AV) (Q : AV → Hp → Prop) : Prop := ∃ v T', Bi c op a b T v T' ∧ Q v T'
noncomputable def CmP (op : Cop) (a b : AV) (Q : Bool → Prop) : Prop := ∃ t, Cm c op a b T t ∧ Q t
noncomputable def ItP (a b : AV) (Q : AV → Prop) : Prop := ∃ v, It c a b T v ∧ Q v
noncomputable def SlP (up : Bool) (a b : AV) (Q : AV → Hp → Prop) : Prop := ∃ v T', Sl c up a b T v T' ∧ Q v T'
noncomputable def AtP (v : AV) (a : Nat) (Q : AV → Prop) : Prop := ∃ r C fs ci w, v = .ref r ∧ T.get r = some (.inst C fs) ∧ lk c.G.cls C = some ci ∧ ci.flds.contains a = true ∧ lk fs a = some w ∧ Q w
noncomputable def MtP (v : AV) (m : Nat) (K : Nat → Nat → Prop) : Prop := ∃ r C fs ci f, v = .ref r ∧ T.get r = some (.inst C fs) ∧ lk c.G.cls C = some ci ∧ lk ci.meths m = some f ∧ lk fs m = none ∧ K r f
noncomputable def AsP (u : AV) (a : Nat) (v : AV) (K : Hp → Prop) : Prop := ∃ r C fs ci, u = .ref r ∧ T.get r = some (.inst C fs) ∧ lk c.G.cls C = some ci ∧ ci.flds.contains a = true ∧ fs.length < 500 ∧ 1 ≤ r ∧ K (hput T r (.inst C (pt fs a v)))
noncomputable def DpP (u k v : AV) (K : Hp → Prop) : Prop := ∃ r es ep, u = .ref r ∧ T.get r = some (.dict es ep) ∧ kOk k es = true ∧ es.length < 4000 ∧ 1 ≤ r ∧ K (hput T r (.dict (dpt k v es) (epS k es ep)))
noncomputable def DdP (u k : AV) (K : Hp → Prop) : Prop := ∃ r es ep v, u = .ref r ∧ T.get r = some (.dict es ep) ∧ kOk k es = true ∧ es.length < 4000 ∧ dlk k es = some v ∧ 1 ≤ r ∧ K (hput T r (.dict (ddl k es) (ep + 1)))
noncomputable def TuP (u : AV) (xs : List Nat) (loc : Loc) (K : Loc → Prop) : Prop := ∃ r vs loc', u = .ref r ∧ (T.get r = some (.tuple vs) ∨ T.get r = some (.list vs)) ∧ setAll xs vs loc = some loc' ∧ K loc'
noncomputable def TwP (u : AV) (xs : List Nat) (loc : Loc) (K : Loc → Prop) : Prop := ∃ r vs loc', u = .ref r ∧ T.get r = some (.tuple vs) ∧ setAll xs.reverse vs.reverse loc = some loc' ∧ K loc'
noncomputable def IkP (u : AV) (K : Nat → IK → Prop) : Prop := ∃ r ik, u = .ref r ∧ IkOf T r ik ∧ K r ik
noncomputable def DiP (l : PEs) (n : Nat) (ps : List (AV × AV)) (K : Hp → Prop) : Prop := T.get n = some (.dict [] 0) ∧ Nat.ble 1 n = true ∧ lenE l = 2 * ps.length ∧ ps ≠ [] ∧ filOk ps [] = true ∧ K (hput T n (fil ps [] 0))
noncomputable def ShP {α : Type} (vs : List α) (K : Prop) : Prop := vs.length < 1000 ∧ K
noncomputable def BlP (v : AV) (K : Bool → Prop) : Prop := ∃ t, v = .bool t ∧ K t
noncomputable def InP (v : AV) (K : Int → Prop) : Prop := ∃ t, v = .int t ∧ K t
noncomputable def YeP (t w : Bool) (K : Prop) : Prop := t = w ∧ K
noncomputable def NoP (v : AV) (K : Prop) : Prop := v = .none ∧ K
end
section
variable {c : Cx} {d : Nat} {loc loc' : Loc} {T T' : Hp} {Q : AV → Hp → Prop} {QB : Bool → Hp → Prop} {v a b : AV} {t w : Bool} {K : Prop} {KV : AV → Prop} {KB : Bool → Prop} {KH : Hp → Prop}
theorem k_ca {f : Nat} {args : List AV} (h : Ca c f args d T v T') (q : Q v T') : CaP c T f args d Q := ⟨_, _, h, q⟩
theorem k_bc {f : AV} {args : List AV} (h : Bc c f args d T v T') (q : Q v T') : BcP c T f args d Q := ⟨_, _, h, q⟩
theorem k_bm {id : String} {o : AV} {args : List AV} (h : Bm c id o args d T v T') (q : Q v T') : BmP c T id o args d Q := ⟨_, _, h, q⟩
theorem k_bg {id : String} {o : AV} {m : Nat} {KS : String → Prop} (h : Bg c o m id T) (q : KS id) : BgP c T o m KS := ⟨_, h, q⟩
theorem k_bi {op : Bop} (h : Bi c op a b T v T') (q : Q v T') : BiP c T op a b Q := ⟨_, _, h, q⟩
theorem k_cm {op : Cop} (t : Bool) (h : Cm c op a b T t) (q : KB t) : CmP c T op a b KB := ⟨_, h, q⟩
theorem k_it (h : It c a b T v) (q : KV v) : ItP c T a b KV := ⟨_, h, q⟩
theorem k_sl {up : Bool} (h : Sl c up a b T v T') (q : Q v T') : SlP c T up a b Q := ⟨_, _, h, q⟩
theorem k_dp {r ep : Nat} {k : AV} {es : List (AV × AV)} (h : T.get r = some (.dict es ep)) (h2 : kOk k es = true) (h3 : es.length < 4000) (h4 : 1 ≤ r) (q : KH (hput T r (.dict (dpt k v es) (epS k es ep)))) : DpP T (.ref r) k v KH := ⟨_, _, _, rfl, h, h2, h3, h4, q⟩
theorem k_dd {r ep : Nat} {k : AV} {es : List (AV × AV)} (h : T.get r = some (.dict es ep)) (h2 : kOk k es = true) (h3 : es.length < 4000) (h4 : dlk k es = some v) (h5 : 1 ≤ r) (q : KH (hput T r (.dict (ddl k es) (ep + 1)))) : DdP T (.ref r) k KH := ⟨_, _, _, _, rfl, h, h2, h3, h4, h5, q⟩
theorem k_tu {r : Nat} {vs : List AV} {xs : List Nat} {KL : Loc → Prop} (h : T.get r = some (.tuple vs) ∨ T.get r = some (.list vs)) (h2 : setAll xs vs loc = some loc') (q : KL loc') : TuP T (.ref r) xs loc KL := ⟨_, _, _, rfl, h, h2, q⟩
theorem k_tw {r : Nat} {vs : List AV} {xs : List Nat} {KL : Loc → Prop} (h : T.get r = some (.tuple vs)) (h2 : setAll xs.reverse vs.reverse loc = some loc') (q : KL loc') : TwP T (.ref r) xs loc KL := ⟨_, _, _, rfl, h, h2, q⟩
theorem k_ik {r : Nat} {ik : IK} {KI : Nat → IK → Prop} (h : IkOf T r ik) (q : KI r ik) : IkP T (.ref r) KI := ⟨_, _, rfl, h, q⟩
theorem k_di {l : PEs} {n : Nat} {ps : List (AV × AV)} (h1 : T.get n = some (.dict [] 0)) (h2 : Nat.ble 1 n = true) (h3 : lenE l = 2 * ps.length) (h4 : ps ≠ []) (h5 : filOk ps [] = true) (q : KH (hput T n (fil ps [] 0))) : DiP T l n ps KH := ⟨h1, h2, h3, h4, h5, q⟩
theorem k_sh {α : Type} {vs : List α} (h : vs.length < 1000) (q : K) : ShP vs K := ⟨h, q⟩
theorem k_bl (q : KB t) : BlP (.bool t) KB := ⟨_, rfl, q⟩
theorem k_in {i : Int} {KZ : Int → Prop} (q : KZ i) : InP (.int i) KZ := ⟨_, rfl, q⟩
theorem k_ye (q : K) : YeP t t K := ⟨rfl, q⟩
theorem k_no (q : K) : NoP .none K := ⟨rfl, q⟩
end
section
variable {c : Cx} {d : Nat} {loc loc' : Loc} {T T' : Hp} {Q : AV → Hp → Prop} {QB : Bool → Hp → Prop} {QL : List AV → Hp → Prop} {N : Loc → Hp → Prop} {R : AV → Hp → Prop} {e e2 o i k v it tst : PE} {l ifs : PEs} {b b2 hb : PSs} {s : PS} {x m cl nm : Nat} {xs : List Nat} {w up : Bool} {u : AV}
theorem E_none (q : Q .none T) : EvP c d loc T .none Q := ⟨_, _, R_none, q⟩
theorem E_bool {z : Bool} (q : Q (.bool z) T) : EvP c d loc T (.bool z) Q := ⟨_, _, R_bool, q⟩
theorem E_int {z : Int} (q : Q (.int z) T) : EvP c d loc T (.int z) Q := ⟨_, _, R_int, q⟩
theorem E_str {z : List Nat} (q : Q (.str z) T) : EvP c d loc T (.str z) Q := ⟨_, _, R_str, q⟩
theorem E_loc (h : lk loc x = some u) (q : Q u T) : EvP c d loc T (.loc x) Q := ⟨_, _, R_loc h, q⟩
theorem E_glb (ok : Ok c) (h : lk c.G.glb x = some u) (q : Q u T) : EvP c d loc T (.glb x) Q := ⟨_, _, R_glb ok h, q⟩
theorem E_attr (ok : Ok c) (h : EvP c d loc T e fun v T1 => AtP c T1 v x fun w => Q w T1) : EvP c d loc T (.attr e x) Q := by
 obtain ⟨_, _, h1, r, C, fs, ci, w, rfl, h2, h3, h4, h5, q⟩ := h
 exact ⟨_, _, R_attr ok h1 h2 h3 h4 h5, q⟩
theorem Es_nil (q : QL [] T) : EsP c d loc T .nil QL := ⟨_, _, Rs_nil, q⟩
theorem Es_cons (h : EvP c d loc T e fun v T1 => EsP c d loc T1 l fun vs T2 => QL (v :: vs) T2) : EsP c d loc T (.cons e l) QL := by
 obtain ⟨_, _, h1, _, _, h2, q⟩ := h
 exact ⟨_, _, Rs_cons h1 h2, q⟩
theorem E_list (h : EsP c d loc T l fun vs T1 => ShP vs (Q (.ref T1.n) (hnew T1 (.list vs)))) : EvP c d loc T (.list l) Q := by
 obtain ⟨_, _, h1, h2, q⟩ := h
 exact ⟨_, _, R_list h1 h2, q⟩
theorem E_tuple (h : EsP c d loc T l fun vs T1 => ShP vs (Q (.ref T1.n) (hnew T1 (.tuple vs)))) : EvP c d loc T (.tuple l) Q := by
 obtain ⟨_, _, h1, h2, q⟩ := h
 exact ⟨_, _, R_tuple h1 h2, q⟩
theorem E_callF (ok : Ok c) {f : Nat} {fi : FI} (hx : lk c.G.glb x = some (.obj f)) (hf : lk c.G.fns f = some fi) (h : EsP c d loc T l fun vs T1 => CaP c T1 f vs d Q) : EvP c d loc T (.call (.glb x) l) Q := by
 obtain ⟨_, _, h1, _, _, h2, q⟩ := h
 exact ⟨_, _, R_callF ok hx hf h1 h2, q⟩
theorem E_callB (ok : Ok c) {f : AV} (hx : lk c.G.glb x = some f) (hf : (∃ b, f = .bi b) ∨ ∃ t, f = .typ t) (h : EsP c d loc T l fun vs T1 => BcP c T1 f vs d Q) : EvP c d loc T (.call (.glb x) l) Q := by
 obtain ⟨_, _, h1, _, _, h2, q⟩ := h
 exact ⟨_, _, R_callB ok hx hf h1 h2, q⟩
theorem E_new (ok : Ok c) {a fi : Nat} {ci : CI} (hx : lk c.G.glb x = some (.obj a)) (hc : lk c.G.cls a = some ci) (hi : lk ci.meths 6944679725401530464 = some fi) (h : EsP c (d + 1) loc T l fun vs T1 => CaP c (hnew T1 (.inst a [])) fi (.ref T1.n :: vs) d fun v T2 => NoP v (Q (.ref T1.n) T2)) : EvP c (d + 1) loc T (.call (.glb x) l) Q := by
 obtain ⟨_, _, h1, _, _, h2, rfl, q⟩ := h
 exact ⟨_, _, R_new ok hx hc hi h1 h2, q⟩
theorem E_meth (ok : Ok c) (h : EvP c d loc T o fun v T1 => MtP c T1 v m fun r f => EsP c d loc T1 l fun vs T2 => CaP c T2 f (.ref r :: vs) d Q) : EvP c d loc T (.meth o m l) Q := by
 obtain ⟨_, _, h1, r, C, fs, ci, f, rfl, h2, h3, h4, h5, _, _, h6, _, _, h7, q⟩ := h
 exact ⟨_, _, R_meth ok h1 h2 h3 h4 h5 h6 h7, q⟩
theorem E_methB (h : EvP c d loc T o fun v T1 => BgP c T1 v m fun id => EsP c d loc T1 l fun vs T2 => BmP c T2 id v vs d Q) : EvP c d loc T (.meth o m l) Q := by
 obtain ⟨_, _, h1, id, h2, _, _, h6, _, _, h7, q⟩ := h
 exact ⟨_, _, R_methB h1 h2 h6 h7, q⟩
theorem E_bin {op : Bop} (h : EvP c d loc T e fun a T1 => EvP c d loc T1 e2 fun b T2 => BiP c T2 op a b Q) : EvP c d loc T (.bin op e e2) Q := by
 obtain ⟨_, _, h1, _, _, h2, _, _, h3, q⟩ := h
 exact ⟨_, _, R_bin h1 h2 h3, q⟩
theorem E_cmp {op : Cop} (h : EvP c d loc T e fun a T1 => EvP c d loc T1 e2 fun b T2 => CmP c T2 op a b fun t => Q (.bool t) T2) : EvP c d loc T (.cmp op e e2) Q := by
 obtain ⟨_, _, h1, _, _, h2, _, h3, q⟩ := h
 exact ⟨_, _, R_cmp h1 h2 h3, q⟩
theorem T_cmpP {op : Cop} (h : EvP c d loc T e fun a T1 => EvP c d loc T1 e2 fun b T2 => CmP c T2 op a b fun t => QB t T2) : TrP c d loc T (.cmp op e e2) QB := by
 obtain ⟨_, _, h1, _, _, h2, _, h3, q⟩ := h
 exact ⟨_, _, T_cmp h1 h2 h3, q⟩
theorem T_notP (h : TrP c d loc T e fun t T1 => QB (!t) T1) : TrP c d loc T (.not e) QB := by
 obtain ⟨_, _, h1, q⟩ := h
 exact ⟨_, _, T_not h1, q⟩
theorem E_neg (h : EvP c d loc T e fun v T1 => InP v fun i => Q (.int (-i)) T1) : EvP c d loc T (.neg e) Q := by
 obtain ⟨_, _, h1, _, rfl, q⟩ := h
 exact ⟨_, _, R_neg h1, q⟩
theorem T_plainP (hp : plainT e = true) (h : EvP c d loc T e fun v T1 => BlP v fun t => QB t T1) : TrP c d loc T e QB := by
 obtain ⟨_, _, h1, _, rfl, q⟩ := h
 exact ⟨_, _, T_plain hp h1, q⟩
theorem T_andP (h : TsP c d loc T true l QB) : TrP c d loc T (.and l) QB := by
 obtain ⟨_, _, h1, q⟩ := h
 exact ⟨_, _, T_and h1, q⟩
theorem T_orP (h : TsP c d loc T false l QB) : TrP c d loc T (.or l) QB := by
 obtain ⟨_, _, h1, q⟩ := h
 exact ⟨_, _, T_or h1, q⟩
theorem Ts_nilP (q : QB w T) : TsP c d loc T w .nil QB := ⟨_, _, Ts_nil, q⟩
theorem Ts_goP (h : TrP c d loc T e fun t T1 => YeP t w (TsP c d loc T1 w l QB)) : TsP c d loc T w (.cons e l) QB := by
 obtain ⟨_, _, h1, rfl, _, _, h2, q⟩ := h
 exact ⟨_, _, Ts_go h1 h2, q⟩
theorem Ts_stopP (h : TrP c d loc T e fun t T1 => YeP t (!w) (QB (!w) T1)) : TsP c d loc T w (.cons e l) QB := by
 obtain ⟨_, _, h1, rfl, q⟩ := h
 exact ⟨_, _, Ts_stop h1, q⟩
theorem E_sub (h : EvP c d loc T o fun a T1 => EvP c d loc T1 i fun b T2 => ItP c T2 a b fun v => Q v T2) : EvP c d loc T (.sub o i) Q := by
 obtain ⟨_, _, h1, _, _, h2, _, h3, q⟩ := h
 exact ⟨_, _, R_sub h1 h2 h3, q⟩
theorem E_slice (h : EvP c d loc T o fun a T1 => EvP c d loc T1 i fun b T2 => SlP c T2 up a b Q) : EvP c d loc T (.slice o up i) Q := by
 obtain ⟨_, _, h1, _, _, h2, _, _, h3, q⟩ := h
 exact ⟨_, _, R_slice h1 h2 h3, q⟩
theorem E_dict0 (ok : Ok c) (q : Q (.ref T.n) (hnew T (.dict [] 0))) : EvP c d loc T (.dict .nil) Q := ⟨_, _, R_dict0 ok, q⟩
theorem P_nilP {QP : List (AV × AV) → Hp → Prop} (q : QP [] T) : PvP c d loc T .nil QP := ⟨_, _, P_nil, q⟩
theorem P_consP {QP : List (AV × AV) → Hp → Prop} (h : EvP c d loc T e fun a T1 => EvP c d loc T1 e2 fun b T2 => PvP c d loc T2 l fun ps T3 => QP ((a, b) :: ps) T3) : PvP c d loc T (.cons e (.cons e2 l)) QP := by
 obtain ⟨_, _, h1, _, _, h2, _, _, h3, q⟩ := h
 exact ⟨_, _, P_cons h1 h2 h3, q⟩
theorem E_dict (ok : Ok c) (h : PvP c d loc (hnew T (.dict [] 0)) l fun ps T1 => DiP T1 l T.n ps fun T2 => Q (.ref T.n) T2) : EvP c d loc T (.dict l) Q := by
 obtain ⟨_, _, h1, h2, h3, h4, h5, h6, q⟩ := h
 exact ⟨_, _, R_dict ok h1 h2 h3 h4 h5 h6, q⟩
theorem E_listc (h : EvP c d loc T it fun u T1 => IkP T1 u fun r ik => CoP c d (rm (k_dot0 :: xs) loc) (hnew T1 (.list [])) (.list v) T1.n xs r ik 0 ifs fun T2 => Q (.ref T1.n) T2) : EvP c d loc T (.listc v xs it ifs) Q := by
 obtain ⟨_, _, h1, _, _, rfl, h2, _, h3, q⟩ := h
 exact ⟨_, _, R_listc h1 h2 h3, q⟩
theorem E_dictc (ok : Ok c) (h : EvP c d loc T it fun u T1 => IkP T1 u fun r ik => CoP c d (rm (k_dot0 :: [x]) loc) (hnew T1 (.dict [] 0)) (.dict k v) T1.n [x] r ik 0 ifs fun T2 => Q (.ref T1.n) T2) : EvP c d loc T (.dictc k v x it ifs) Q := by
 obtain ⟨_, _, h1, _, _, rfl, h2, _, h3, q⟩ := h
 exact ⟨_, _, R_dictc ok h1 h2 h3, q⟩
theorem X_nilP (q : N loc T) : ExP c d loc T .nil N R := .inl ⟨_, _, X_nil, q⟩
theorem X_consP (h : StP c d loc T s (fun l T1 => ExP c d l T1 b N R) R) : ExP c d loc T (.cons s b) N R := by
 obtain ⟨_, _, h1, ⟨_, _, h2, q⟩ | ⟨_, _, h2, q⟩⟩ | ⟨_, _, h1, q⟩ := h
 ·exact .inl ⟨_, _, X_cons h1 h2, q⟩
 ·exact .inr ⟨_, _, X_cons h1 h2, q⟩
 ·exact .inr ⟨_, _, X_ret h1, q⟩
theorem S_expr (h : EvP c d loc T e fun _ T1 => N loc T1) : StP c d loc T (.expr e) N R := by
 obtain ⟨_, _, h1, q⟩ := h
 exact .inl ⟨_, _, R_expr h1, q⟩
theorem S_ret (h : EvP c d loc T e R) : StP c d loc T (.ret e) N R := by
 obtain ⟨_, _, h1, q⟩ := h
 exact .inr ⟨_, _, R_ret h1, q⟩
theorem S_asg (h : EvP c d loc T e fun v T1 => N (pt loc x v) T1) : StP c d loc T (.asg x e) N R := by
 obtain ⟨_, _, h1, q⟩ := h
 exact .inl ⟨_, _, R_asg h1, q⟩
theorem S_if (h : TrP c d loc T tst fun w T1 => ExP c d loc T1 (cond w b b2) N R) : StP c d loc T (.ite tst b b2) N R := by
 obtain ⟨_, _, h1, ⟨_, _, h2, q⟩ | ⟨_, _, h2, q⟩⟩ := h
 ·exact .inl ⟨_, _, R_if _ h1 h2, q⟩
 ·exact .inr ⟨_, _, R_if _ h1 h2, q⟩
theorem S_asgC (h : EvP c d loc T it fun u T1 => IkP T1 u fun r ik => CoP c d (rm (k_dot0 :: xs) loc) (hnew T1 (.list [])) (.list v) T1.n xs r ik 0 ifs fun T2 => N (pt loc x (.ref T1.n)) T2) : StP c d loc T (.asgC x v xs it ifs) N R := by
 obtain ⟨_, _, h1, _, _, rfl, h2, _, h3, q⟩ := h
 exact .inl ⟨_, _, R_asgC h1 h2 h3, q⟩
theorem S_asgA (ok : Ok c) (h : EvP c d loc T e fun v T1 => EvP c d loc T1 o fun u T2 => AsP c T2 u x v fun T3 => N loc T3) : StP c d loc T (.asgA o x e) N R := by
 obtain ⟨_, _, h1, _, _, h2, _, _, _, _, rfl, h3, h4, h5, h6, h7, q⟩ := h
 exact .inl ⟨_, _, R_asgA ok h1 h2 h3 h4 h5 h6 h7, q⟩
theorem S_asgS (h : EvP c d loc T e fun v T1 => EvP c d loc T1 o fun u T2 => EvP c d loc T2 i fun k T3 => DpP T3 u k v fun T4 => N loc T4) : StP c d loc T (.asgS o i e) N R := by
 obtain ⟨_, _, h1, _, _, h2, _, _, h3, _, _, _, rfl, h4, h5, h6, h7, q⟩ := h
 exact .inl ⟨_, _, R_asgS h1 h2 h3 h4 h5 h6 h7, q⟩
theorem S_delS (h : EvP c d loc T o fun u T2 => EvP c d loc T2 i fun k T3 => DdP T3 u k fun T4 => N loc T4) : StP c d loc T (.delS o i) N R := by
 obtain ⟨_, _, h2, _, _, h3, _, _, _, _, rfl, h4, h5, h6, h7, h8, q⟩ := h
 exact .inl ⟨_, _, R_delS h2 h3 h4 h5 h6 h7 h8, q⟩
theorem S_asgT (h : EvP c d loc T e fun u T1 => TuP T1 u xs loc fun l => N l T1) : StP c d loc T (.asgT xs e) N R := by
 obtain ⟨_, _, h1, _, _, _, rfl, h2, h3, q⟩ := h
 exact .inl ⟨_, _, R_asgT h1 h2 h3, q⟩
theorem S_asgW (h : EvP c d loc T e fun u T1 => TwP T1 u xs loc fun l => N l T1) : StP c d loc T (.asgW xs e) N R := by
 obtain ⟨_, _, h1, _, _, _, rfl, h2, h3, q⟩ := h
 exact .inl ⟨_, _, R_asgW h1 h2 h3, q⟩
theorem S_for (h : EvP c d loc T it fun u T1 => IkP T1 u fun r ik => LoP c d loc T1 xs r ik 0 b N R) : StP c d loc T (.for1 xs it b) N R := by
 obtain ⟨_, _, h1, _, _, rfl, h2, ⟨_, _, h3, q⟩ | ⟨_, _, h3, q⟩⟩ := h
 ·exact .inl ⟨_, _, R_for h1 h2 h3, q⟩
 ·exact .inr ⟨_, _, R_for h1 h2 h3, q⟩
theorem S_whl (h : WlP c d loc T tst b N R) : StP c d loc T (.whl tst b) N R := by
 obtain ⟨_, _, h3, q⟩ | ⟨_, _, h3, q⟩ := h
 ·exact .inl ⟨_, _, R_whl h3, q⟩
 ·exact .inr ⟨_, _, R_whl h3, q⟩
theorem S_try (h : ExP c d loc T b N R) : StP c d loc T (.try b cl nm hb) N R := by
 obtain ⟨_, _, h3, q⟩ | ⟨_, _, h3, q⟩ := h
 ·exact .inl ⟨_, _, R_try h3, q⟩
 ·exact .inr ⟨_, _, R_try h3, q⟩
variable {src j acc : Nat} {ik : IK} {ck : CK} {y : AV} {KH : Hp → Prop}
theorem L_endP (e : Turn T src j none ik) (q : N loc T) : LoP c d loc T xs src ik j b N R := .inl ⟨_, _, L_end e, q⟩
theorem L_nextP (e : Turn T src j (some y) ik) (eb : BindTo T xs y loc loc') (h : ExP c d loc' T b (fun l T1 => LoP c d l T1 xs src ik (j + 1) b N R) R) : LoP c d loc T xs src ik j b N R := by
 obtain ⟨_, _, h1, ⟨_, _, h2, q⟩ | ⟨_, _, h2, q⟩⟩ | ⟨_, _, h1, q⟩ := h
 ·exact .inl ⟨_, _, L_next e eb h1 h2, q⟩
 ·exact .inr ⟨_, _, L_next e eb h1 h2, q⟩
 ·exact .inr ⟨_, _, L_ret e eb h1, q⟩
theorem W_endP (h : TrP c d loc T tst fun t T1 => YeP t false (N loc T1)) : WlP c d loc T tst b N R := by
 obtain ⟨_, _, h1, rfl, q⟩ := h
 exact .inl ⟨_, _, W_end h1, q⟩
theorem W_nextP (h : TrP c d loc T tst fun t T1 => YeP t true (ExP c d loc T1 b (fun l T2 => WlP c d l T2 tst b N R) R)) : WlP c d loc T tst b N R := by
 obtain ⟨_, _, h0, rfl, ⟨_, _, h1, ⟨_, _, h2, q⟩ | ⟨_, _, h2, q⟩⟩ | ⟨_, _, h1, q⟩⟩ := h
 ·exact .inl ⟨_, _, W_next h0 h1 h2, q⟩
 ·exact .inr ⟨_, _, W_next h0 h1 h2, q⟩
 ·exact .inr ⟨_, _, W_ret h0 h1, q⟩
theorem Te_nilP (q : QB true T) : TeP c d loc T .nil QB := ⟨_, _, Te_nil, q⟩
theorem Te_goP (h : TrP c d loc T e fun t T1 => YeP t true (TeP c d loc T1 l QB)) : TeP c d loc T (.cons e l) QB := by
 obtain ⟨_, _, h1, rfl, _, _, h2, q⟩ := h
 exact ⟨_, _, Te_go h1 h2, q⟩
theorem Te_stopP (h : TrP c d loc T e fun t T1 => YeP t false (QB false T1)) : TeP c d loc T (.cons e l) QB := by
 obtain ⟨_, _, h1, rfl, q⟩ := h
 exact ⟨_, _, Te_stop h1, q⟩
theorem Co_endP (e : Turn T src j none ik) (q : KH T) : CoP c d loc T ck acc xs src ik j ifs KH := ⟨_, Co_end e, q⟩
theorem Co_skipP (e : Turn T src j (some y) ik) (eb : BindTo T xs y loc loc') (h : TeP c d loc' T ifs fun t T1 => YeP t false (CoP c d loc' T1 ck acc xs src ik (j + 1) ifs KH)) : CoP c d loc T ck acc xs src ik j ifs KH := by
 obtain ⟨_, _, h1, rfl, _, h2, q⟩ := h
 exact ⟨_, Co_skip e eb h1 h2, q⟩
noncomputable def ApP (T : Hp) (acc : Nat) (y : AV) (K : Hp → Prop) : Prop := ∃ ys, T.get acc = some (.list ys) ∧ ys.length < 4000 ∧ 1 ≤ acc ∧ K (hput T acc (.list (ys ++ [y])))
theorem k_ap {ys : List AV} (h : T.get acc = some (.list ys)) (h2 : ys.length < 4000) (h3 : 1 ≤ acc) (q : KH (hput T acc (.list (ys ++ [y])))) : ApP T acc y KH := ⟨_, h, h2, h3, q⟩
theorem Co_listP (e : Turn T src j (some y) ik) (eb : BindTo T xs y loc loc') (h : TeP c d loc' T ifs fun t T1 => YeP t true (EvP c d loc' T1 v fun w T2 => ApP T2 acc w fun T3 => CoP c d loc' T3 (.list v) acc xs src ik (j + 1) ifs KH)) : CoP c d loc T (.list v) acc xs src ik j ifs KH := by
 obtain ⟨_, _, h1, rfl, _, _, h2, _, h3, h4, h5, _, h6, q⟩ := h
 exact ⟨_, Co_list e eb h1 h2 h3 h4 h5 h6, q⟩
theorem Co_dictP (e : Turn T src j (some y) ik) (eb : BindTo T xs y loc loc') (h : TeP c d loc' T ifs fun t T1 => YeP t true (EvP c d loc' T1 k fun kx T2 => EvP c d loc' T2 v fun w T3 => DpP T3 (.ref acc) kx w fun T4 => CoP c d loc' T4 (.dict k v) acc xs src ik (j + 1) ifs KH)) : CoP c d loc T (.dict k v) acc xs src ik j ifs KH := by
 obtain ⟨_, _, h1, rfl, _, _, h2, _, _, h3, _, _, _, hr, h4, h5, h6, h7, _, h8, q⟩ := h
 cases hr
 exact ⟨_, Co_dict e eb h1 h2 h3 h4 h5 h6 h7 h8, q⟩
end
theorem C_funP {c : Cx} (ok : Ok c) {d a : Nat} {T : Hp} {args : List AV} {Q : AV → Hp → Prop} {fi : FI} {l : Loc} (hfi : lk c.G.fns a = some fi) (hl : binds fi.params args (fi.dfl.drop (args.length - (fi.params.length - fi.dfl.length))) (fi.params.length - fi.dfl.length) = some l) (h : ExP c d l T fi.body (fun _ T1 => Q .none T1) Q) : CaP c T a args (d + 1) Q := by
 obtain ⟨l', T', h1, q⟩ | ⟨v, T', h1, q⟩ := h
 ·exact ⟨_, _, C_fun ok (f := .nxt l') hfi hl h1, q⟩
 ·exact ⟨_, _, C_fun ok (f := .ret v) hfi hl h1, q⟩
noncomputable def kd (a : AO) : Nat := match a with
 | .inst C _ => C + 6
 | .dict .. => 0 | .list _ => 1 | .tuple _ => 2 | .range .. => 3 | .exc .. => 4
theorem ne_kd {T : Hp} {r x : Nat} {a b : AO} (h : T.get r = some a) (g : T.get x = some b) (q : Nat.beq (kd a) (kd b) = false) : x ≠ r := by
 rintro rfl
 rw [h] at g; cases g
 rw [Nat.beq_refl] at q; cases q
theorem get_kd {T : Hp} {r x : Nat} {a b o : AO} (h : T.get r = some a) (g : T.get x = some b) (q : Nat.beq (kd a) (kd b) = false) : (hput T r o).get x = some b := get_ne h (ne_kd h g q) g
end Mine
namespace Mine
section
variable {c : Cx} {d : Nat} {loc l : Loc} {T T' : Hp} {N : Loc → Hp → Prop} {R : AV → Hp → Prop} {xs : List Nat} {src j acc : Nat} {ik : IK} {b : PSs} {v : AV} {tst : PE} {ck : CK} {ifs : PEs} {KH : Hp → Prop}
theorem k_lo (h : Lo c xs src ik j b d loc T (.nxt l) T') (q : N l T') : LoP c d loc T xs src ik j b N R := .inl ⟨_, _, h, q⟩
theorem k_lor (h : Lo c xs src ik j b d loc T (.ret v) T') (q : R v T') : LoP c d loc T xs src ik j b N R := .inr ⟨_, _, h, q⟩
theorem k_wl (h : Wl c tst b d loc T (.nxt l) T') (q : N l T') : WlP c d loc T tst b N R := .inl ⟨_, _, h, q⟩
theorem k_co (h : Co c ck acc xs src ik j ifs d loc T T') (q : KH T') : CoP c d loc T ck acc xs src ik j ifs KH := ⟨_, h, q⟩
theorem cmt {op : Cop} {a b : AV} {t w : Bool} (h : Cm c op a b T t) (e : t = w) : Cm c op a b T w := e ▸ h
end
end Mine
namespace Mine
theorem get_nf {T : Hp} {r x : Nat} {o b : AO} (ne : x ≠ r) (g : T.get x = some b) : (hput T r o).get x = some b := (get_off T ne).trans g
end Mine
namespace Mine
section
variable {T : Hp} {r j len ep : Nat} {x : Option AV} {es : List (AV × AV)} {xs : List AV}
theorem turnD (h : T.get r = some (.dict es ep)) (hl : es.length = len) (hj : (es.map (·.1))[j]? = x) : Turn T r j x (.dict len ep) := ⟨_, h, hl, hj⟩
theorem turnL (h : T.get r = some (.list xs)) (hj : xs[j]? = x) : Turn T r j x .list := ⟨_, h, hj⟩
theorem turnT (h : T.get r = some (.tuple xs)) (hj : xs[j]? = x) : Turn T r j x .tuple := ⟨_, h, hj⟩
theorem ikD (h : T.get r = some (.dict es ep)) (hl : es.length = len) : IkOf T r (.dict len ep) := ⟨_, h, hl⟩
theorem ikL (h : T.get r = some (.list xs)) : IkOf T r .list := ⟨_, h⟩
theorem ikT (h : T.get r = some (.tuple xs)) : IkOf T r .tuple := ⟨_, h⟩
end
end Mine
namespace Mine
noncomputable def fld (G : Tab) (C a : Nat) : Bool := match lk G.cls C with | some ci => ci.flds.contains a | none => false
noncomputable def mth (G : Tab) (C m : Nat) : Option Nat := match lk G.cls C with | some ci => lk ci.meths m | none => none
theorem fld_of {G : Tab} {C a : Nat} (h : fld G C a = true) : ∃ ci, lk G.cls C = some ci ∧ ci.flds.contains a = true := by
 unfold fld at h
 cases e : lk G.cls C with
 | none => rw [e] at h; cases h
 | some ci => rw [e] at h; exact ⟨ci, rfl, h⟩
theorem mth_of {G : Tab} {C m f : Nat} (h : mth G C m = some f) : ∃ ci, lk G.cls C = some ci ∧ lk ci.meths m = some f := by
 unfold mth at h
 cases e : lk G.cls C with
 | none => rw [e] at h; cases h
 | some ci => rw [e] at h; exact ⟨ci, rfl, h⟩
section
variable {c : Cx} {d r C x a m f : Nat} {loc : Loc} {T : Hp} {Q : AV → Hp → Prop} {QL : List AV → Hp → Prop} {N : Loc → Hp → Prop} {R : AV → Hp → Prop} {l : PEs} {e : PE} {v : AV} {fs : List (Nat × AV)} {K : Hp → Prop} {KV : AV → Prop} {KN : Nat → Nat → Prop}
theorem E_la (ok : Ok c) (h0 : lk loc x = some (.ref r)) (h : T.get r = some (.inst C fs)) (h2 : fld c.G C a = true) (h4 : lk fs a = some v) (q : Q v T) : EvP c d loc T (.attr (.loc x) a) Q :=
 let ⟨_, h5, h6⟩ := fld_of h2; ⟨_, _, R_attr ok (R_loc h0) h h5 h6 h4, q⟩
theorem k_at2 (h : T.get r = some (.inst C fs)) (h2 : fld c.G C a = true) (h4 : lk fs a = some v) (q : KV v) : AtP c T (.ref r) a KV := let ⟨_, h5, h6⟩ := fld_of h2; ⟨_, _, _, _, _, rfl, h, h5, h6, h4, q⟩
theorem k_mt2 (h : T.get r = some (.inst C fs)) (h2 : mth c.G C m = some f) (h4 : lk fs m = none) (q : KN r f) : MtP c T (.ref r) m KN := let ⟨_, h5, h6⟩ := mth_of h2; ⟨_, _, _, _, _, rfl, h, h5, h6, h4, q⟩
theorem k_as2 (h : T.get r = some (.inst C fs)) (h2 : fld c.G C a = true) (h4 : fs.length < 500) (h5 : 1 ≤ r) (q : K (hput T r (.inst C (pt fs a v)))) : AsP c T (.ref r) a v K := let ⟨_, h6, h7⟩ := fld_of h2; ⟨_, _, _, _, rfl, h, h6, h7, h4, h5, q⟩
theorem E_lm (ok : Ok c) (h0 : lk loc x = some (.ref r)) (h : T.get r = some (.inst C fs)) (h2 : mth c.G C m = some f) (h4 : lk fs m = none) (q : EsP c d loc T l fun vs T2 => CaP c T2 f (.ref r :: vs) d Q) : EvP c d loc T (.meth (.loc x) m l) Q :=
 E_meth ok (E_loc h0 (k_mt2 h h2 h4 q))
theorem Es_loc (h : lk loc x = some v) (q : EsP c d loc T l fun vs T2 => QL (v :: vs) T2) : EsP c d loc T (.cons (.loc x) l) QL := Es_cons (E_loc h q)
noncomputable def AlP (c : Cx) (loc : Loc) (x a : Nat) (v : AV) (T : Hp) (K : Hp → Prop) : Prop := ∃ r C fs, lk loc x = some (.ref r) ∧ T.get r = some (.inst C fs) ∧ fld c.G C a = true ∧ fs.length < 500 ∧ 1 ≤ r ∧ K (hput T r (.inst C (pt fs a v)))
theorem k_al (h0 : lk loc x = some (.ref r)) (h : T.get r = some (.inst C fs)) (h2 : fld c.G C a = true) (h4 : fs.length < 500) (h5 : 1 ≤ r) (q : K (hput T r (.inst C (pt fs a v)))) : AlP c loc x a v T K := ⟨_, _, _, h0, h, h2, h4, h5, q⟩
theorem S_asgL (ok : Ok c) (h : EvP c d loc T e fun v T1 => AlP c loc x a v T1 fun T3 => N loc T3) : StP c d loc T (.asgA (.loc x) a e) N R := by
 obtain ⟨_, _, h1, _, _, _, h0, h3, h4, h6, h7, q⟩ := h
 obtain ⟨_, h4, h5⟩ := fld_of h4
 exact .inl ⟨_, _, R_asgA ok h1 (R_loc h0) h3 h4 h5 h6 h7, q⟩
end
end Mine
namespace Mine
theorem C_funQ {c : Cx} (ok : Ok c) {d a : Nat} {T : Hp} {args : List AV} {Q : AV → Hp → Prop} {fi : FI} {l : Loc} (hfi : lk c.G.fns a = some fi) (hl : binds fi.params args (fi.dfl.drop (args.length - (fi.params.length - fi.dfl.length))) (fi.params.length - fi.dfl.length) = some l) (h : ∀ Q' : AV → Hp → Prop, (∀ u T', Q u T' → Q' u T') → ExP c d l T fi.body (fun _ T1 => Q' .none T1) Q') : CaP c T a args (d + 1) Q := C_funP ok hfi hl (h Q fun _ _ q => q)
end Mine
namespace Mine
theorem Upd.leA {T X : Hp} (u : Upd T.n All T X) : T.n ≤ X.n := u.1
theorem CaP.imp {c : Cx} {T : Hp} {a d : Nat} {args : List AV} {P Q : AV → Hp → Prop} (h : CaP c T a args d P) (k : ∀ v T', P v T' → Q v T') : CaP c T a args d Q := let ⟨v, T', h, p⟩ := h; ⟨v, T', h, k v T' p⟩
end Mine
namespace Mine
theorem lk_same {l : Loc} {x : Nat} {v : AV} : lk (pt l x v) x = some v := by rw [lk_pt, if_pos rfl]
theorem lk_else {l : Loc} {x y : Nat} {v w : AV} (ne : Nat.beq y x = false) (h : lk l y = some w) : lk (pt l x v) y = some w := by rw [lk_pt, if_neg fun e => by rw [e, Nat.beq_refl] at ne; cases ne]; exact h
theorem addI {c : Cx} {T : Hp} {x y z : Int} (h : x + y = z) : Bi c .add (.int x) (.int y) T (.int z) T := h ▸ B_addI
theorem modI {c : Cx} {T : Hp} {x y z : Int} (p : 0 < y) (h : Int.fmod x y = z) : Bi c .mod (.int x) (.int y) T (.int z) T := h ▸ B_modI p
noncomputable def f_need : FI := { params := [1769300593], dfl := [], body := (.cons (.ite (.or (.cons (.cmp .isnt (.call (.glb 1718712949) (.cons (.loc 1769300593) .nil)) (.glb 7566708)) (.cons (.not (.meth (.loc 1769300593) 498014421767949786445172 (.cons (.str [47]) .nil))) .nil))) (.cons .bad .nil) .nil) (.cons (.ite (.cmp .eq (.loc 1769300593) (.str [47])) (.cons (.ret (.loc 1769300593)) .nil) .nil) (.cons (.for1 [1718510191] (.meth (.slice (.loc 1769300593) false (.int 1)) 504296730996 (.cons (.str [47]) .nil)) (.cons (.ite (.or (.cons (.cmp .eq (.loc 1718510191) (.str [])) (.cons (.cmp .gt (.call (.glb 7300717) (.cons (.loc 1718510191) .nil)) (.glb 24018033858007117)) (.cons (.cmp .isin (.loc 1718510191) (.list (.cons (.str [46]) (.cons (.str [46, 46]) .nil)))) (.cons (.cmp .ne (.meth (.loc 1718510191) 487117256052 (.cons (.glb 362107390548) .nil)) (.str [])) .nil))))) (.cons .bad .nil) .nil) .nil)) (.cons (.ret (.loc 1769300593)) .nil)))) }
noncomputable def f_parent : FI := { params := [1769300593], dfl := [], body := (.cons (.ite (.cmp .eq (.call (.glb 1701209711) (.cons (.loc 1769300593) .nil)) (.str [47])) (.cons .bad .nil) .nil) (.cons (.asg 7698020 (.meth (.loc 1769300593) 133480695425651 (.cons (.str [47]) .nil))) (.cons (.ite (.cmp .eq (.loc 7698020) (.int 0)) (.cons (.ret (.str [47])) .nil) .nil) (.cons (.ret (.slice (.loc 1769300593) true (.loc 7698020))) .nil)))) }
noncomputable def f_last : FI := { params := [1769300593], dfl := [], body := (.cons (.ret (.slice (.call (.glb 1701209711) (.cons (.loc 1769300593) .nil)) false (.bin .add (.meth (.loc 1769300593) 133480695425651 (.cons (.str [47]) .nil)) (.int 1)))) .nil) }
noncomputable def f_join : FI := { params := [1769300593, 1718510191], dfl := [], body := (.cons (.ite (.cmp .eq (.loc 1769300593) (.str [47])) (.cons (.ret (.call (.glb 1701209711) (.cons (.bin .add (.str [47]) (.loc 1718510191)) .nil))) .nil) .nil) (.cons (.ret (.call (.glb 1701209711) (.cons (.bin .add (.bin .add (.loc 1769300593) (.str [47])) (.loc 1718510191)) .nil))) .nil)) }
noncomputable def f_numbered : FI := { params := [1769300593, 126883592042095], dfl := [], body := (.cons (.ret (.call (.glb 1701209711) (.cons (.bin .add (.bin .add (.loc 1769300593) (.bin .mul (.str [48]) (.bin .sub (.int 10) (.call (.glb 7300717) (.cons (.call (.glb 7566708) (.cons (.loc 126883592042095) .nil)) .nil))))) (.call (.glb 7566708) (.cons (.loc 126883592042095) .nil))) .nil))) .nil) }
noncomputable def f_number_of : FI := { params := [1769300593], dfl := [], body := (.cons (.asg 128047645223525 (.slice (.loc 1769300593) false (.neg (.int 10)))) (.cons (.ite (.or (.cons (.cmp .lt (.call (.glb 7300717) (.cons (.loc 128047645223525) .nil)) (.int 10)) (.cons (.not (.meth (.loc 128047645223525) 29953327213212778 .nil)) (.cons (.not (.meth (.loc 128047645223525) 33049568969323626 .nil)) .nil)))) (.cons (.ret .none) .nil) .nil) (.cons (.ret (.call (.glb 7696234) (.cons (.loc 128047645223525) .nil))) .nil))) }
noncomputable def f_Entry___init__ : FI := { params := [1735222900, 1651860069, 495639820400, 440039269997, 128047628446323, 8030035183836554867], dfl := [], body := (.cons (.asgA (.loc 1735222900) 1651860069 (.loc 1651860069)) (.cons (.asgA (.loc 1735222900) 31367324937447031 (.int 0)) (.cons (.asgA (.loc 1735222900) 1952803436 (.int 0)) (.cons (.asgA (.loc 1735222900) 495639820400 (.loc 495639820400)) (.cons (.asgA (.loc 1735222900) 440039269997 (.loc 440039269997)) (.cons (.asgA (.loc 1735222900) 128047628446323 (.loc 128047628446323)) (.cons (.asgA (.loc 1735222900) 32482276888965220 (.int 0)) (.cons (.asgA (.loc 1735222900) 1717920366 (.loc 8030035183836554867)) (.cons (.asgA (.loc 1735222900) 28541571379128676 (.loc 8030035183836554867)) .nil))))))))) }
noncomputable def f_Entry_row : FI := { params := [1735222900], dfl := [], body := (.cons (.ret (.tuple (.cons (.attr (.loc 1735222900) 1651860069) (.cons (.attr (.loc 1735222900) 31367324937447031) (.cons (.attr (.loc 1735222900) 1952803436) (.cons (.attr (.loc 1735222900) 495639820400) (.cons (.attr (.loc 1735222900) 440039269997) (.cons (.attr (.loc 1735222900) 128047628446323) (.cons (.attr (.loc 1735222900) 32482276888965220) (.cons (.attr (.loc 1735222900) 1717920366) (.cons (.attr (.loc 1735222900) 28541571379128676) .nil))))))))))) .nil) }
noncomputable def f_Entry_copy : FI := { params := [1735222900], dfl := [], body := (.cons (.asg 495639426416 (.call (.glb 525923086150) (.cons (.attr (.loc 1735222900) 1651860069) (.cons (.attr (.loc 1735222900) 495639820400) (.cons (.attr (.loc 1735222900) 440039269997) (.cons (.attr (.loc 1735222900) 128047628446323) (.cons (.attr (.loc 1735222900) 1717920366) .nil))))))) (.cons (.asgA (.loc 495639426416) 31367324937447031 (.attr (.loc 1735222900) 31367324937447031)) (.cons (.asgA (.loc 495639426416) 1952803436 (.attr (.loc 1735222900) 1952803436)) (.cons (.asgA (.loc 495639426416) 32482276888965220 (.attr (.loc 1735222900) 32482276888965220)) (.cons (.asgA (.loc 495639426416) 28541571379128676 (.attr (.loc 1735222900) 28541571379128676)) (.cons (.ret (.loc 495639426416)) .nil)))))) }
noncomputable def f_Tree___init__ : FI := { params := [1735222900], dfl := [], body := (.cons (.asgA (.loc 1735222900) 32763704688078694 (.dict (.cons (.str [47]) (.cons (.call (.glb 525923086150) (.cons (.str []) (.cons .none (.cons .none (.cons (.glb 1330008400) (.cons (.int 0) .nil)))))) .nil)))) .nil) }
noncomputable def f_Tree_has : FI := { params := [1735222900, 1769300593], dfl := [], body := (.cons (.ret (.cmp .isin (.loc 1769300593) (.attr (.loc 1735222900) 32763704688078694))) .nil) }
noncomputable def f_Tree_entry : FI := { params := [1735222900, 1769300593], dfl := [], body := (.cons (.ite (.cmp .notin (.loc 1769300593) (.attr (.loc 1735222900) 32763704688078694)) (.cons .bad .nil) .nil) (.cons (.ret (.sub (.attr (.loc 1735222900) 32763704688078694) (.loc 1769300593))) .nil)) }
noncomputable def f_Tree_children : FI := { params := [1735222900, 1769300593], dfl := [], body := (.cons (.expr (.meth (.loc 1735222900) 525923086182 (.cons (.loc 1769300593) .nil))) (.cons (.ret (.call (.glb 111490731569268) (.cons (.listc (.call (.glb 1970561645) (.cons (.loc 6713200) .nil)) [6713200] (.attr (.loc 1735222900) 32763704688078694) (.cons (.and (.cons (.cmp .ne (.loc 6713200) (.str [47])) (.cons (.cmp .eq (.call (.glb 129121320657521) (.cons (.loc 6713200) .nil)) (.loc 1769300593)) .nil))) .nil)) .nil))) .nil)) }
noncomputable def f_Tree_copy : FI := { params := [1735222900], dfl := [], body := (.cons (.asg 495639426416 (.call (.glb 1717990229) .nil)) (.cons (.asgA (.loc 495639426416) 32763704688078694 (.dictc (.loc 1769300593) (.meth (.sub (.attr (.loc 1735222900) 32763704688078694) (.loc 1769300593)) 2054254692 .nil) 1769300593 (.attr (.loc 1735222900) 32763704688078694) .nil)) (.cons (.ret (.loc 495639426416)) .nil))) }
noncomputable def f_Tree_rows : FI := { params := [1735222900], dfl := [], body := (.cons (.ret (.listc (.bin .add (.tuple (.cons (.loc 1769300593) .nil)) (.meth (.sub (.attr (.loc 1735222900) 32763704688078694) (.loc 1769300593)) 7893107 .nil)) [1769300593] (.call (.glb 111490731569268) (.cons (.attr (.loc 1735222900) 32763704688078694) .nil)) .nil)) .nil) }
noncomputable def f_Tree_apply : FI := { params := [1735222900, 8030035183836554867, 112598731352420], dfl := [], body := (.cons (.asgW [1702064248, 1769300593] (.tuple (.cons (.sub (.loc 112598731352420) (.int 0)) (.cons (.sub (.loc 112598731352420) (.int 1)) .nil)))) (.cons (.ite (.cmp .eq (.loc 1702064248) (.str [99, 114, 101, 97, 116, 101])) (.cons (.expr (.meth (.loc 1735222900) 28839513110570080 (.cons (.loc 8030035183836554867) (.cons (.loc 1769300593) (.cons (.sub (.loc 112598731352420) (.int 2)) .nil))))) .nil) (.cons (.ite (.cmp .eq (.loc 1702064248) (.str [115, 101, 116])) (.cons (.asg 525923086182 (.meth (.loc 1735222900) 525923086182 (.cons (.loc 1769300593) .nil))) (.cons (.asgA (.loc 525923086182) 1651860069 (.sub (.loc 112598731352420) (.int 2))) (.cons (.asgA (.loc 525923086182) 31367324937447031 (.bin .add (.attr (.loc 525923086182) 31367324937447031) (.int 1))) (.cons (.asgA (.loc 525923086182) 28541571379128676 (.loc 8030035183836554867)) .nil)))) (.cons (.ite (.cmp .eq (.loc 1702064248) (.str [100, 101, 108, 101, 116, 101])) (.cons (.expr (.meth (.loc 1735222900) 28839530407028064 (.cons (.loc 1769300593) .nil))) .nil) (.cons (.ite (.cmp .eq (.loc 1702064248) (.str [114, 105, 103, 104, 116, 115])) (.cons (.asgA (.meth (.loc 1735222900) 525923086182 (.cons (.loc 1769300593) .nil)) 128047628446323 (.sub (.loc 112598731352420) (.int 2))) .nil) (.cons .bad .nil)) .nil)) .nil)) .nil)) .nil)) }
noncomputable def f_Tree__create : FI := { params := [1735222900, 8030035183836554867, 1769300593, 478460471912], dfl := [], body := (.cons (.asgT [1651860069, 495639820400, 440039269997, 128047628446323, 126883592042095] (.loc 478460471912)) (.cons (.ite (.meth (.loc 1735222900) 7627369 (.cons (.loc 1769300593) .nil)) (.cons .bad .nil) .nil) (.cons (.asg 440090518370 (.meth (.loc 1735222900) 525923086182 (.cons (.call (.glb 129121320657521) (.cons (.loc 1769300593) .nil)) .nil))) (.cons (.ite (.or (.cons (.cmp .isnt (.attr (.loc 440090518370) 495639820400) .none) (.cons (.cmp .isnt (.attr (.loc 440090518370) 440039269997) .none) .nil))) (.cons .bad .nil) .nil) (.cons (.asgA (.loc 440090518370) 1952803436 (.bin .add (.attr (.loc 440090518370) 1952803436) (.int 1))) (.cons (.ite (.loc 126883592042095) (.cons (.asgA (.loc 440090518370) 32482276888965220 (.bin .add (.attr (.loc 440090518370) 32482276888965220) (.int 1))) .nil) .nil) (.cons (.asgS (.attr (.loc 1735222900) 32763704688078694) (.loc 1769300593) (.call (.glb 525923086150) (.cons (.loc 1651860069) (.cons (.loc 495639820400) (.cons (.loc 440039269997) (.cons (.loc 128047628446323) (.cons (.loc 8030035183836554867) .nil))))))) .nil))))))) }
noncomputable def f_Tree__delete : FI := { params := [1735222900, 1769300593], dfl := [], body := (.cons (.expr (.meth (.loc 1735222900) 525923086182 (.cons (.loc 1769300593) .nil))) (.cons (.ite (.cmp .eq (.loc 1769300593) (.str [47])) (.cons .bad .nil) .nil) (.cons (.ite (.cmp .gt (.call (.glb 7300717) (.cons (.meth (.loc 1735222900) 8027230265299069284 (.cons (.loc 1769300593) .nil)) .nil)) (.int 0)) (.cons .bad .nil) .nil) (.cons (.delS (.attr (.loc 1735222900) 32763704688078694) (.loc 1769300593)) (.cons (.asg 440090518370 (.meth (.loc 1735222900) 525923086182 (.cons (.call (.glb 129121320657521) (.cons (.loc 1769300593) .nil)) .nil))) (.cons (.asgA (.loc 440090518370) 1952803436 (.bin .add (.attr (.loc 440090518370) 1952803436) (.int 1))) .nil)))))) }
noncomputable def f_Snapshot___init__ : FI := { params := [1735222900, 8030035183836554867, 1717990261], dfl := [], body := (.cons (.asgA (.loc 1735222900) 8030035183836554867 (.loc 8030035183836554867)) (.cons (.asgA (.loc 1735222900) 1717990261 (.meth (.loc 1717990261) 2054254692 .nil)) .nil)) }
noncomputable def f_Log___init__ : FI := { params := [1735222900], dfl := [], body := (.cons (.asgA (.loc 1735222900) 1954050163 (.list .nil)) (.cons (.asgA (.loc 1735222900) 8462379648668561268 (.call (.glb 8462379648668561236) (.cons (.int 0) (.cons (.call (.glb 1717990229) .nil) .nil)))) (.cons (.asgA (.loc 1735222900) 504447006068 (.int 0)) .nil))) }
noncomputable def f_Log_add : FI := { params := [1735222900, 8030035183836554867, 1818520181, 32763696029788516], dfl := [], body := (.cons (.ite (.cmp .ne (.loc 8030035183836554867) (.bin .add (.meth (.loc 1735222900) 1970561645 .nil) (.int 1))) (.cons .bad .nil) .nil) (.cons (.expr (.meth (.attr (.loc 1735222900) 1954050163) 111529134485858 (.cons (.tuple (.cons (.loc 8030035183836554867) (.cons (.loc 1818520181) (.cons (.call (.glb 439922816629) (.cons (.loc 32763696029788516) .nil)) .nil)))) .nil))) .nil)) }
noncomputable def f_Log_last : FI := { params := [1735222900], dfl := [], body := (.cons (.ite (.cmp .eq (.call (.glb 7300717) (.cons (.attr (.loc 1735222900) 1954050163) .nil)) (.int 0)) (.cons (.ret (.attr (.loc 1735222900) 504447006068)) .nil) .nil) (.cons (.ret (.sub (.sub (.attr (.loc 1735222900) 1954050163) (.neg (.int 1))) (.int 0))) .nil)) }
noncomputable def f_Log_again : FI := { params := [1735222900], dfl := [], body := (.cons (.asg 1717990261 (.meth (.attr (.attr (.loc 1735222900) 8462379648668561268) 1717990261) 2054254692 .nil)) (.cons (.for1 [8030035183836554867, 1818520181, 32763696029788516] (.attr (.loc 1735222900) 1954050163) (.cons (.ite (.cmp .gt (.loc 8030035183836554867) (.attr (.attr (.loc 1735222900) 8462379648668561268) 8030035183836554867)) (.cons (.for1 [112598731352420] (.loc 32763696029788516) (.cons (.expr (.meth (.loc 1717990261) 525822161250 (.cons (.loc 8030035183836554867) (.cons (.loc 112598731352420) .nil)))) .nil)) .nil) .nil) .nil)) (.cons (.ret (.loc 1717990261)) .nil))) }
noncomputable def f_need_rights : FI := { params := [128047628446323], dfl := [], body := (.cons (.ite (.cmp .is (.loc 128047628446323) .none) (.cons (.ret .none) .nil) .nil) (.cons (.ite (.or (.cons (.cmp .isnt (.call (.glb 1718712949) (.cons (.loc 128047628446323) .nil)) (.glb 1969515109)) (.cons .bad .nil))) (.cons .bad .nil) .nil) (.cons (.asg 435661729895 (.list .nil)) (.cons (.for1 [1936094326] (.call (.glb 111490731569268) (.cons (.loc 128047628446323) .nil)) (.cons (.asg 32777981192922733 (.sub (.loc 128047628446323) (.loc 1936094326))) (.cons (.ite (.or (.cons (.cmp .eq (.loc 1936094326) (.str [])) (.cons (.cmp .isnt (.call (.glb 1718712949) (.cons (.loc 32777981192922733) .nil)) (.glb 7566708)) (.cons (.cmp .ne (.meth (.loc 32777981192922733) 487117256052 (.cons (.glb 23735459588163149) .nil)) (.str [])) .nil)))) (.cons .bad .nil) .nil) (.cons (.expr (.meth (.loc 435661729895) 111529134485858 (.cons (.tuple (.cons (.loc 1936094326) (.cons (.meth (.str []) 1869246571 (.cons (.call (.glb 111490731569268) (.cons .bad .nil)) .nil)) .nil))) .nil))) .nil)))) (.cons (.ret (.call (.glb 439922816629) (.cons (.loc 435661729895) .nil))) .nil))))) }
noncomputable def f_rights_of : FI := { params := [1717990261, 1769300593], dfl := [], body := (.cons (.whl (.or (.cons (.not (.meth (.loc 1717990261) 7627369 (.cons (.loc 1769300593) .nil))) (.cons (.cmp .is (.attr (.meth (.loc 1717990261) 525923086182 (.cons (.loc 1769300593) .nil)) 128047628446323) .none) .nil))) (.cons (.asg 1769300593 (.call (.glb 129121320657521) (.cons (.loc 1769300593) .nil))) .nil)) (.cons (.ret (.call (.glb 1969515109) (.cons (.attr (.meth (.loc 1717990261) 525923086182 (.cons (.loc 1769300593) .nil)) 128047628446323) .nil))) .nil)) }
noncomputable def f_may : FI := { params := [1717990261, 1769300593, 1936094326, 126883894486637], dfl := [], body := (.cons (.asg 128047628446323 (.call (.glb 1908112239769724414579) (.cons (.loc 1717990261) (.cons (.loc 1769300593) .nil)))) (.cons (.ret (.cmp .isin (.loc 126883894486637) (.bin .add (.meth (.loc 128047628446323) 7693928 (.cons (.loc 1936094326) (.cons (.str []) .nil))) (.meth (.loc 128047628446323) 7693928 (.cons (.str [42]) (.cons (.str []) .nil)))))) .nil)) }
noncomputable def f_need_right : FI := { params := [1717990261, 1769300593, 1936094326, 126883894486637], dfl := [], body := (.cons (.ite (.not (.call (.glb 8020590) (.cons (.loc 1717990261) (.cons (.loc 1769300593) (.cons (.loc 1936094326) (.cons (.loc 126883894486637) .nil)))))) (.cons .bad .nil) .nil) .nil) }
noncomputable def f_Session___init__ : FI := { params := [1735222900, 126883592042095, 1936094326, 33062797402073717, 1818520181], dfl := [], body := (.cons (.asgA (.loc 1735222900) 126883592042095 (.loc 126883592042095)) (.cons (.asgA (.loc 1735222900) 1936094326 (.loc 1936094326)) (.cons (.asgA (.loc 1735222900) 33062797402073717 (.loc 33062797402073717)) (.cons (.asgA (.loc 1735222900) 435727525481 (.loc 1818520181)) .nil)))) }
noncomputable def f_need_ticks : FI := { params := [500034726517], dfl := [], body := (.cons (.ite (.or (.cons (.cmp .isnt (.call (.glb 1718712949) (.cons (.loc 500034726517) .nil)) (.glb 7696234)) (.cons (.cmp .lt (.loc 500034726517) (.int 1)) .nil))) (.cons .bad .nil) .nil) (.cons (.ret (.loc 500034726517)) .nil)) }
noncomputable def f_need_user : FI := { params := [1936094326], dfl := [], body := (.cons (.ite (.or (.cons (.cmp .isnt (.call (.glb 1718712949) (.cons (.loc 1936094326) .nil)) (.glb 7566708)) (.cons (.cmp .isin (.loc 1936094326) (.list (.cons (.str []) (.cons (.str [42]) .nil)))) .nil))) (.cons .bad .nil) .nil) (.cons (.ret (.loc 1936094326)) .nil)) }
noncomputable def f_Store___init__ : FI := { params := [1735222900, 1902536300], dfl := [.none], body := (.cons (.ite (.cmp .isnt (.loc 1902536300) .none) (.cons (.expr (.call (.glb 549793996097647679006319) (.cons (.loc 1902536300) .nil))) .nil) .nil) (.cons (.asgA (.loc 1735222900) 1717990261 (.call (.glb 1717990229) .nil)) (.cons (.asgA (.loc 1735222900) 6844525 (.call (.glb 6844493) .nil)) (.cons (.asgA (.loc 1735222900) 1902536300 (.loc 1902536300)) (.cons (.asgA (.loc 1735222900) 1818520181 (.int 0)) (.cons (.asgA (.loc 1735222900) 8030035183836554867 (.int 0)) (.cons (.asgA (.loc 1735222900) 8390048233337153140 (.dict .nil)) (.cons (.asgA (.loc 1735222900) 127983388092013 (.dict .nil)) (.cons (.asgA (.loc 1735222900) 32763700141449848 (.dict .nil)) (.cons (.asgA (.loc 1735222900) 504381206628 (.int 0)) .nil)))))))))) }
noncomputable def f_Store__number : FI := { params := [1735222900], dfl := [], body := (.cons (.asgA (.loc 1735222900) 504381206628 (.bin .add (.attr (.loc 1735222900) 504381206628) (.int 1))) (.cons (.ret (.attr (.loc 1735222900) 504381206628)) .nil)) }
noncomputable def f_Store_open : FI := { params := [1735222900, 1936094326, 33062797402073717], dfl := [(.int (10))], body := (.cons (.asg 31367324937512564 (.call (.glb 31367324937512532) (.cons (.bin .add (.attr (.loc 1735222900) 504381206628) (.int 1)) (.cons (.call (.glb 2128758224322155669103) (.cons (.loc 1936094326) .nil)) (.cons (.call (.glb 549793996097647679006319) (.cons (.loc 33062797402073717) .nil)) (.cons (.attr (.loc 1735222900) 1818520181) .nil)))))) (.cons (.asgS (.attr (.loc 1735222900) 8390048233337153140) (.meth (.loc 1735222900) 32482199562776416 .nil) (.loc 31367324937512564)) (.cons (.ret (.attr (.loc 31367324937512564) 126883592042095)) .nil))) }
noncomputable def f_Store_session : FI := { params := [1735222900, 126883592042095], dfl := [], body := (.cons (.ite (.or (.cons (.cmp .isnt (.call (.glb 1718712949) (.cons (.loc 126883592042095) .nil)) (.glb 7696234)) (.cons (.cmp .notin (.loc 126883592042095) (.attr (.loc 1735222900) 8390048233337153140)) .nil))) (.cons .bad .nil) .nil) (.cons (.asgA (.sub (.attr (.loc 1735222900) 8390048233337153140) (.loc 126883592042095)) 435727525481 (.attr (.loc 1735222900) 1818520181)) (.cons (.ret (.sub (.attr (.loc 1735222900) 8390048233337153140) (.loc 126883592042095))) .nil))) }
noncomputable def f_Store_close : FI := { params := [1735222900, 126883592042095], dfl := [], body := (.cons (.expr (.meth (.loc 1735222900) 31367324937512564 (.cons (.loc 126883592042095) .nil))) (.cons (.ret (.meth (.loc 1735222900) 1701799520 (.cons (.loc 126883592042095) .nil))) .nil)) }
noncomputable def f_Store__end : FI := { params := [1735222900, 126883592042095], dfl := [], body := (.cons (.delS (.attr (.loc 1735222900) 8390048233337153140) (.loc 126883592042095)) (.cons (.asgA (.loc 1735222900) 32763700141449848 (.dictc (.loc 8021612) (.sub (.attr (.loc 1735222900) 32763700141449848) (.loc 8021612)) 8021612 (.attr (.loc 1735222900) 32763700141449848) (.cons (.cmp .ne (.attr (.sub (.attr (.loc 1735222900) 32763700141449848) (.loc 8021612)) 31367324937512564) (.loc 126883592042095)) .nil))) (.cons (.ret (.meth (.loc 1735222900) 29682873038698336 (.cons (.listc (.loc 1769300593) [1769300593] (.call (.glb 111490731569268) (.cons (.attr (.attr (.loc 1735222900) 1717990261) 32763704688078694) .nil)) (.cons (.cmp .eq (.attr (.sub (.attr (.attr (.loc 1735222900) 1717990261) 32763704688078694) (.loc 1769300593)) 495639820400) (.loc 126883592042095)) .nil)) .nil))) .nil))) }
noncomputable def f_Store__vanish : FI := { params := [1735222900, 499985506929], dfl := [], body := (.cons (.ite (.cmp .gt (.call (.glb 7300717) (.cons (.loc 499985506929) .nil)) (.int 0)) (.cons (.expr (.meth (.loc 1735222900) 33049594806953056 (.cons (.meth (.attr (.loc 1735222900) 1717990261) 2054254692 .nil) (.cons (.listc (.tuple (.cons (.str [100, 101, 108, 101, 116, 101]) (.cons (.loc 1769300593) .nil))) [1769300593] (.loc 499985506929) .nil) .nil)))) .nil) .nil) (.cons (.ret (.loc 499985506929)) .nil)) }
noncomputable def f_Store__commit : FI := { params := [1735222900, 1717990261, 32763696029788516], dfl := [], body := (.cons (.asg 8030035183836554867 (.bin .add (.attr (.loc 1735222900) 8030035183836554867) (.int 1))) (.cons (.for1 [112598731352420] (.loc 32763696029788516) (.cons (.expr (.meth (.loc 1717990261) 525822161250 (.cons (.loc 8030035183836554867) (.cons (.loc 112598731352420) .nil)))) .nil)) (.cons (.expr (.meth (.loc 1735222900) 7598815489333555552 (.cons (.loc 1717990261) (.cons (.loc 32763696029788516) .nil)))) .nil))) }
noncomputable def f_Store__publish : FI := { params := [1735222900, 1717990261, 32763696029788516], dfl := [], body := (.cons (.asg 112645993096803 (.attr (.loc 1735222900) 1717990261)) (.cons (.asgA (.loc 1735222900) 8030035183836554867 (.bin .add (.attr (.loc 1735222900) 8030035183836554867) (.int 1))) (.cons (.asgA (.loc 1735222900) 1717990261 (.loc 1717990261)) (.cons (.expr (.meth (.attr (.loc 1735222900) 6844525) 6645090 (.cons (.attr (.loc 1735222900) 8030035183836554867) (.cons (.attr (.loc 1735222900) 1818520181) (.cons (.loc 32763696029788516) .nil))))) (.cons (.for1 [126883592042095] (.call (.glb 111490731569268) (.cons (.attr (.loc 1735222900) 32763700141449848) .nil)) (.cons (.asg 452656980600 (.sub (.attr (.loc 1735222900) 32763700141449848) (.loc 126883592042095))) (.cons (.expr (.meth (.loc 452656980600) 6710900 (.cons (.attr (.loc 1735222900) 8030035183836554867) (.cons (.meth (.loc 1735222900) 478459360352 (.cons (.loc 452656980600) (.cons (.loc 32763696029788516) (.cons (.loc 112645993096803) .nil)))) .nil)))) .nil))) (.cons (.ite (.and (.cons (.cmp .isnt (.attr (.loc 1735222900) 1902536300) .none) (.cons (.cmp .gt (.call (.glb 7300717) (.cons (.attr (.attr (.loc 1735222900) 6844525) 1954050163) .nil)) (.attr (.loc 1735222900) 1902536300)) .nil))) (.cons (.expr (.meth (.loc 1735222900) 33042946247782500 .nil)) .nil) .nil) .nil)))))) }
noncomputable def f_Store_has : FI := { params := [1735222900, 126883592042095, 1769300593], dfl := [], body := (.cons (.asg 1936094326 (.attr (.meth (.loc 1735222900) 31367324937512564 (.cons (.loc 126883592042095) .nil)) 1936094326)) (.cons (.expr (.call (.glb 554461310576473324021359) (.cons (.attr (.loc 1735222900) 1717990261) (.cons (.call (.glb 1701209711) (.cons (.loc 1769300593) .nil)) (.cons (.loc 1936094326) (.cons (.str [114]) .nil)))))) (.cons (.ret (.meth (.attr (.loc 1735222900) 1717990261) 7627369 (.cons (.loc 1769300593) .nil))) .nil))) }
noncomputable def f_Store_children : FI := { params := [1735222900, 126883592042095, 1769300593], dfl := [], body := (.cons (.asg 1936094326 (.attr (.meth (.loc 1735222900) 31367324937512564 (.cons (.loc 126883592042095) .nil)) 1936094326)) (.cons (.expr (.call (.glb 554461310576473324021359) (.cons (.attr (.loc 1735222900) 1717990261) (.cons (.call (.glb 1701209711) (.cons (.loc 1769300593) .nil)) (.cons (.loc 1936094326) (.cons (.str [114]) .nil)))))) (.cons (.ret (.meth (.attr (.loc 1735222900) 1717990261) 8027230265299069284 (.cons (.loc 1769300593) .nil))) .nil))) }
noncomputable def f_Store_create : FI := { params := [1735222900, 126883592042095, 1769300593, 1651860069, 115948722807415, 7306654329047250543, 440039269997, 128047628446323], dfl := [(.str []), (.bool false), (.bool false), .none, .none], body := (.cons (.ret (.meth (.loc 1735222900) 112628813619808 (.cons (.loc 126883592042095) (.cons (.tuple (.cons (.str [99, 114, 101, 97, 116, 101]) (.cons (.loc 1769300593) (.cons (.loc 1651860069) (.cons (.loc 115948722807415) (.cons (.loc 7306654329047250543) (.cons (.loc 440039269997) (.cons (.loc 128047628446323) .nil)))))))) .nil)))) .nil) }
noncomputable def f_Store_delete : FI := { params := [1735222900, 126883592042095, 1769300593, 31367324937447031], dfl := [.none], body := (.cons (.ret (.meth (.loc 1735222900) 112628813619808 (.cons (.loc 126883592042095) (.cons (.tuple (.cons (.str [100, 101, 108, 101, 116, 101]) (.cons (.loc 1769300593) (.cons (.loc 31367324937447031) .nil)))) .nil)))) .nil) }
noncomputable def f_Store__alone : FI := { params := [1735222900, 126883592042095, 1902540148], dfl := [], body := (.cons (.asgT [1717990261, 32763696029788516, 32777981243191138] (.meth (.loc 1735222900) 128030399100000 (.cons (.loc 126883592042095) (.cons (.list (.cons (.loc 1902540148) .nil)) (.cons (.bool false) .nil))))) (.cons (.expr (.meth (.loc 1735222900) 7598815489333555552 (.cons (.loc 1717990261) (.cons (.loc 32763696029788516) .nil)))) (.cons (.ret (.sub (.loc 32777981243191138) (.int 0))) .nil))) }
noncomputable def f_Store__steps : FI := { params := [1735222900, 126883592042095, 500118746484, 30789020241323636], dfl := [], body := (.cons (.asg 1936094326 (.attr (.meth (.loc 1735222900) 31367324937512564 (.cons (.loc 126883592042095) .nil)) 1936094326)) (.cons (.asg 1717990261 (.meth (.attr (.loc 1735222900) 1717990261) 2054254692 .nil)) (.cons (.asg 32763696029788516 (.list .nil)) (.cons (.asg 32777981243191138 (.list .nil)) (.cons (.for1 [30050] (.call (.glb 439838794355) (.cons (.call (.glb 7300717) (.cons (.loc 500118746484) .nil)) .nil)) (.cons (.try (.cons (.ite (.cmp .notin (.call (.glb 1718712949) (.cons (.sub (.loc 500118746484) (.loc 30050)) .nil)) (.list (.cons (.glb 1970563693) (.cons (.glb 439922816629) .nil)))) (.cons .bad .nil) .nil) (.cons (.asg 1902540148 (.call (.glb 439922816629) (.cons (.sub (.loc 500118746484) (.loc 30050)) .nil))) (.cons (.ite (.or (.cons (.cmp .lt (.call (.glb 7300717) (.cons (.loc 1902540148) .nil)) (.int 2)) (.cons (.cmp .notin (.sub (.loc 1902540148) (.int 0)) (.glb 362140816724)) .nil))) (.cons .bad .nil) .nil) (.cons (.expr (.meth (.loc 32777981243191138) 111529134485858 (.cons (.meth (.loc 1735222900) 487050277984 (.cons (.loc 126883592042095) (.cons (.loc 1936094326) (.cons (.loc 1717990261) (.cons (.loc 1902540148) (.cons (.loc 32763696029788516) .nil)))))) .nil))) .nil)))) 48 495807853414 .nil) .nil)) (.cons (.ret (.tuple (.cons (.loc 1717990261) (.cons (.loc 32763696029788516) (.cons (.loc 32777981243191138) .nil))))) .nil)))))) }
noncomputable def f_Store__step : FI := { params := [1735222900, 126883592042095, 1936094326, 1717990261, 1902540148, 32763696029788516], dfl := [], body := (.cons (.asgW [1702064248, 1769300593] (.tuple (.cons (.sub (.loc 1902540148) (.int 0)) (.cons (.call (.glb 1701209711) (.cons (.sub (.loc 1902540148) (.int 1)) .nil)) .nil)))) (.cons (.asg 1970562675 (.call (.glb 1970563693) (.cons (.slice (.loc 1902540148) false (.int 2)) .nil))) (.cons (.ite (.cmp .gt (.call (.glb 7300717) (.cons (.loc 1970562675) .nil)) (.sub (.dict (.cons (.str [99, 104, 101, 99, 107]) (.cons (.int 1) (.cons (.str [99, 114, 101, 97, 116, 101]) (.cons (.int 5) (.cons (.str [115, 101, 116]) (.cons (.int 2) (.cons (.str [100, 101, 108, 101, 116, 101]) (.cons (.int 1) (.cons (.str [103, 101, 116]) (.cons (.int 0) .nil))))))))))) (.loc 1702064248))) (.cons .bad .nil) .nil) (.cons (.ite (.cmp .eq (.loc 1702064248) (.str [99, 114, 101, 97, 116, 101])) (.cons (.asg 1970562675 (.bin .add (.loc 1970562675) (.slice (.list (.cons (.str []) (.cons (.bool false) (.cons (.bool false) (.cons .none (.cons .none .nil)))))) false (.call (.glb 7300717) (.cons (.loc 1970562675) .nil))))) (.cons (.ret (.meth (.loc 1735222900) 28839513110570080 (.cons (.loc 126883592042095) (.cons (.loc 1936094326) (.cons (.loc 1717990261) (.cons (.loc 1769300593) (.cons (.loc 1970562675) (.cons (.loc 32763696029788516) .nil)))))))) .nil)) .nil) (.cons (.ite (.cmp .eq (.loc 1702064248) (.str [103, 101, 116])) (.cons (.expr (.call (.glb 554461310576473324021359) (.cons (.loc 1717990261) (.cons (.loc 1769300593) (.cons (.loc 1936094326) (.cons (.str [114]) .nil)))))) (.cons (.ret (.attr (.meth (.loc 1717990261) 525923086182 (.cons (.loc 1769300593) .nil)) 1651860069)) .nil)) .nil) (.cons (.asg 31367324937447031 .none) (.cons (.ite (.and (.cons (.cmp .eq (.loc 1702064248) (.str [115, 101, 116])) (.cons (.cmp .gt (.call (.glb 7300717) (.cons (.loc 1970562675) .nil)) (.int 1)) .nil))) (.cons (.asg 31367324937447031 (.sub (.loc 1970562675) (.int 1))) .nil) .nil) (.cons (.ite (.and (.cons (.cmp .isin (.loc 1702064248) (.list (.cons (.str [99, 104, 101, 99, 107]) (.cons (.str [100, 101, 108, 101, 116, 101]) .nil)))) (.cons (.cmp .gt (.call (.glb 7300717) (.cons (.loc 1970562675) .nil)) (.int 0)) .nil))) (.cons (.asg 31367324937447031 (.sub (.loc 1970562675) (.int 0))) .nil) .nil) (.cons (.expr (.call (.glb 554461310576473324021359) (.cons (.loc 1717990261) (.cons (.loc 1769300593) (.cons (.loc 1936094326) (.cons (.sub (.dict (.cons (.str [99, 104, 101, 99, 107]) (.cons (.str [114]) (.cons (.str [115, 101, 116]) (.cons (.str [119]) (.cons (.str [100, 101, 108, 101, 116, 101]) (.cons (.str [100]) .nil))))))) (.loc 1702064248)) .nil)))))) (.cons (.asg 435661729895 (.call (.glb 8030035183986440032) (.cons (.loc 1717990261) (.cons (.loc 1769300593) (.cons (.loc 31367324937447031) .nil))))) (.cons (.ite (.cmp .eq (.loc 1702064248) (.str [115, 101, 116])) (.cons (.ite (.or (.cons (.cmp .eq (.call (.glb 7300717) (.cons (.loc 1970562675) .nil)) (.int 0)) (.cons (.cmp .isnt (.call (.glb 1718712949) (.cons (.sub (.loc 1970562675) (.int 0)) .nil)) (.glb 7566708)) .nil))) (.cons .bad .nil) .nil) (.cons (.expr (.meth (.loc 1735222900) 7365984 (.cons (.loc 1717990261) (.cons (.loc 32763696029788516) (.cons (.tuple (.cons (.str [115, 101, 116]) (.cons (.loc 1769300593) (.cons (.sub (.loc 1970562675) (.int 0)) .nil)))) .nil))))) (.cons (.ret (.bin .add (.loc 435661729895) (.int 1))) .nil))) .nil) (.cons (.ite (.cmp .eq (.loc 1702064248) (.str [100, 101, 108, 101, 116, 101])) (.cons (.expr (.meth (.loc 1735222900) 7365984 (.cons (.loc 1717990261) (.cons (.loc 32763696029788516) (.cons (.tuple (.cons (.str [100, 101, 108, 101, 116, 101]) (.cons (.loc 1769300593) .nil))) .nil))))) (.cons (.ret .none) .nil)) .nil) (.cons (.ret (.loc 435661729895)) .nil))))))))))))) }
noncomputable def f_Store__create : FI := { params := [1735222900, 126883592042095, 1936094326, 1717990261, 1769300593, 1970562675, 32763696029788516], dfl := [], body := (.cons (.asgT [1651860069, 115948722807415, 139509984824270207449393784, 440039269997, 128047628446323] (.loc 1970562675)) (.cons (.ite (.cmp .isnt (.call (.glb 1718712949) (.cons (.loc 1651860069) .nil)) (.glb 7566708)) (.cons .bad .nil) .nil) (.cons (.asg 440090518370 (.call (.glb 129121320657521) (.cons (.loc 1769300593) .nil))) (.cons (.expr (.call (.glb 554461310576473324021359) (.cons (.loc 1717990261) (.cons (.loc 440090518370) (.cons (.loc 1936094326) (.cons (.str [99]) .nil)))))) (.cons (.ite (.loc 139509984824270207449393784) (.cons (.asg 1769300593 (.call (.glb 7306654329047250543) (.cons (.loc 1769300593) (.cons (.attr (.meth (.loc 1717990261) 525923086182 (.cons (.loc 440090518370) .nil)) 32482276888965220) .nil)))) .nil) .nil) (.cons (.asg 495639820400 .none) (.cons (.ite (.loc 115948722807415) (.cons (.asg 495639820400 (.loc 126883592042095)) .nil) .nil) (.cons (.ite (.cmp .isnt (.loc 440039269997) .none) (.cons (.expr (.meth (.loc 1735222900) 440039269997 (.cons (.loc 440039269997) .nil))) .nil) .nil) (.cons (.asg 478460471912 (.tuple (.cons (.loc 1651860069) (.cons (.loc 495639820400) (.cons (.loc 440039269997) (.cons (.call (.glb 140789856385873457589937775) (.cons (.loc 128047628446323) .nil)) (.cons (.call (.glb 1836085347) (.cons (.loc 139509984824270207449393784) .nil)) .nil))))))) (.cons (.expr (.meth (.loc 1735222900) 7365984 (.cons (.loc 1717990261) (.cons (.loc 32763696029788516) (.cons (.tuple (.cons (.str [99, 114, 101, 97, 116, 101]) (.cons (.loc 1769300593) (.cons (.loc 478460471912) .nil)))) .nil))))) (.cons (.ret (.loc 1769300593)) .nil))))))))))) }
noncomputable def f_Store__do : FI := { params := [1735222900, 1717990261, 32763696029788516, 112598731352420], dfl := [], body := (.cons (.expr (.meth (.loc 1717990261) 525822161250 (.cons (.bin .add (.attr (.loc 1735222900) 8030035183836554867) (.int 1)) (.cons (.loc 112598731352420) .nil)))) (.cons (.expr (.meth (.loc 32763696029788516) 111529134485858 (.cons (.loc 112598731352420) .nil))) .nil)) }
noncomputable def f_Store_again : FI := { params := [1735222900], dfl := [], body := (.cons (.ret (.meth (.attr (.loc 1735222900) 6844525) 478526204002 .nil)) .nil) }
noncomputable def f_Store_faults : FI := { params := [1735222900], dfl := [], body := (.cons (.asg 435661729895 (.list .nil)) (.cons (.for1 [1769300593] (.call (.glb 111490731569268) (.cons (.attr (.attr (.loc 1735222900) 1717990261) 32763704688078694) .nil)) (.cons (.asg 525923086182 (.sub (.attr (.attr (.loc 1735222900) 1717990261) 32763704688078694) (.loc 1769300593))) (.cons (.ite (.and (.cons (.cmp .isnt (.attr (.loc 525923086182) 495639820400) .none) (.cons (.cmp .notin (.attr (.loc 525923086182) 495639820400) (.attr (.loc 1735222900) 8390048233337153140)) .nil))) (.cons (.expr (.meth (.loc 435661729895) 111529134485858 (.cons (.tuple (.cons (.str [111, 119, 110, 101, 114, 32, 105, 115, 32, 111, 118, 101, 114]) (.cons (.loc 1769300593) .nil))) .nil))) .nil) .nil) (.cons (.ite (.and (.cons (.cmp .isnt (.attr (.loc 525923086182) 440039269997) .none) (.cons (.cmp .notin (.attr (.loc 525923086182) 440039269997) (.attr (.loc 1735222900) 127983388092013)) .nil))) (.cons (.expr (.meth (.loc 435661729895) 111529134485858 (.cons (.tuple (.cons (.str [108, 101, 97, 115, 101, 32, 105, 115, 32, 111, 118, 101, 114]) (.cons (.loc 1769300593) .nil))) .nil))) .nil) .nil) .nil)))) (.cons (.ite (.cmp .ne (.meth (.meth (.loc 1735222900) 478526204002 .nil) 1954050163 .nil) (.meth (.attr (.loc 1735222900) 1717990261) 1954050163 .nil)) (.cons (.expr (.meth (.loc 435661729895) 111529134485858 (.cons (.tuple (.cons (.str [117, 110, 108, 105, 107, 101, 32, 105, 116, 115, 32, 108, 111, 103]) (.cons (.attr (.loc 1735222900) 8030035183836554867) .nil))) .nil))) .nil) .nil) (.cons (.ret (.loc 435661729895)) .nil)))) }
noncomputable def f__version : FI := { params := [1717990261, 1769300593, 31367324937447031], dfl := [], body := (.cons (.asg 435661729895 (.neg (.int 1))) (.cons (.ite (.meth (.loc 1717990261) 7627369 (.cons (.loc 1769300593) .nil)) (.cons (.asg 435661729895 (.attr (.meth (.loc 1717990261) 525923086182 (.cons (.loc 1769300593) .nil)) 31367324937447031)) .nil) .nil) (.cons (.ite (.and (.cons (.cmp .isnt (.loc 31367324937447031) .none) (.cons (.cmp .ne (.loc 31367324937447031) (.loc 435661729895)) .nil))) (.cons .bad .nil) .nil) (.cons (.ite (.and (.cons (.cmp .eq (.loc 435661729895) (.neg (.int 1))) (.cons (.cmp .is (.loc 31367324937447031) .none) .nil))) (.cons .bad .nil) .nil) (.cons (.ret (.loc 435661729895)) .nil))))) }
noncomputable def f_made : FI := { params := [440023414132, 126883592042095, 1769300593], dfl := [], body := (.cons (.ite (.and (.cons (.cmp .ne (.loc 1769300593) (.str [47])) (.cons (.not (.meth (.loc 440023414132) 7627369 (.cons (.loc 126883592042095) (.cons (.loc 1769300593) .nil)))) .nil))) (.cons (.expr (.call (.glb 1717920366) (.cons (.loc 440023414132) (.cons (.loc 126883592042095) (.cons (.call (.glb 129121320657521) (.cons (.loc 1769300593) .nil)) .nil))))) (.cons (.expr (.meth (.loc 440023414132) 112654348088164 (.cons (.loc 126883592042095) (.cons (.loc 1769300593) .nil)))) .nil)) .nil) (.cons (.ret (.loc 1769300593)) .nil)) }
noncomputable def f_Line___init__ : FI := { params := [1735222900, 440023414132, 1769300593], dfl := [], body := (.cons (.asgA (.loc 1735222900) 440023414132 (.loc 440023414132)) (.cons (.asgA (.loc 1735222900) 1769300593 (.loc 1769300593)) .nil)) }
noncomputable def f_Line_places : FI := { params := [1735222900, 126883592042095], dfl := [], body := (.cons (.ite (.not (.meth (.attr (.loc 1735222900) 440023414132) 7627369 (.cons (.loc 126883592042095) (.cons (.attr (.loc 1735222900) 1769300593) .nil)))) (.cons (.ret (.list .nil)) .nil) .nil) (.cons (.asgC 499985506929 (.call (.glb 549739878588327502966891) (.cons (.attr (.loc 1735222900) 1769300593) (.cons (.loc 1718510191) .nil))) [1718510191] (.meth (.attr (.loc 1735222900) 440023414132) 8027230265299069284 (.cons (.loc 126883592042095) (.cons (.attr (.loc 1735222900) 1769300593) .nil))) (.cons (.meth (.loc 1718510191) 498014421767949786445172 (.cons (.str [112, 108, 97, 99, 101, 45]) .nil)) .nil)) (.cons (.ret (.listc (.loc 1769300593) [1769300593] (.loc 499985506929) (.cons (.and (.cons (.cmp .isnt (.call (.glb 1908112238605688010351) (.cons (.loc 1769300593) .nil)) .none) (.cons (.cmp .eq (.call (.glb 7300717) (.cons (.call (.glb 1970561645) (.cons (.loc 1769300593) .nil)) .nil)) (.int 16)) (.cons (.cmp .isnt (.attr (.meth (.attr (.attr (.loc 1735222900) 440023414132) 1717990261) 525923086182 (.cons (.loc 1769300593) .nil)) 495639820400) .none) .nil)))) .nil))) .nil))) }
noncomputable def f_Line_place : FI := { params := [1735222900, 126883592042095], dfl := [], body := (.cons (.for1 [1769300593] (.meth (.loc 1735222900) 127983119658353 (.cons (.loc 126883592042095) .nil)) (.cons (.ite (.cmp .eq (.attr (.meth (.attr (.attr (.loc 1735222900) 440023414132) 1717990261) 525923086182 (.cons (.loc 1769300593) .nil)) 495639820400) (.loc 126883592042095)) (.cons (.ret (.loc 1769300593)) .nil) .nil) .nil)) (.cons (.ret .none) .nil)) }
noncomputable def f_Line_join : FI := { params := [1735222900, 126883592042095, 1651860069], dfl := [(.str [])], body := (.cons (.ite (.cmp .isnt (.call (.glb 1718712949) (.cons (.loc 1651860069) .nil)) (.glb 7566708)) (.cons .bad .nil) .nil) (.cons (.expr (.call (.glb 1717920366) (.cons (.attr (.loc 1735222900) 440023414132) (.cons (.loc 126883592042095) (.cons (.attr (.loc 1735222900) 1769300593) .nil))))) (.cons (.asg 1718577774 (.meth (.loc 1735222900) 439770836337 (.cons (.loc 126883592042095) .nil))) (.cons (.ite (.cmp .isnt (.loc 1718577774) .none) (.cons (.ret (.loc 1718577774)) .nil) .nil) (.cons (.ret (.meth (.attr (.loc 1735222900) 440023414132) 112654348088164 (.cons (.loc 126883592042095) (.cons (.call (.glb 549739878588327502966891) (.cons (.attr (.loc 1735222900) 1769300593) (.cons (.str [112, 108, 97, 99, 101, 45]) .nil))) (.cons (.loc 1651860069) (.cons (.bool true) (.cons (.bool true) .nil))))))) .nil))))) }
noncomputable def f_Line_leave : FI := { params := [1735222900, 126883592042095], dfl := [], body := (.cons (.asg 1718577774 (.meth (.loc 1735222900) 439770836337 (.cons (.loc 126883592042095) .nil))) (.cons (.ite (.cmp .is (.loc 1718577774) .none) (.cons (.ret (.bool false)) .nil) .nil) (.cons (.expr (.meth (.attr (.loc 1735222900) 440023414132) 112654415652453 (.cons (.loc 126883592042095) (.cons (.loc 1718577774) .nil)))) (.cons (.ret (.bool true)) .nil)))) }
noncomputable def f_Line_first : FI := { params := [1735222900, 126883592042095], dfl := [], body := (.cons (.asg 127983119658353 (.meth (.loc 1735222900) 127983119658353 (.cons (.loc 126883592042095) .nil))) (.cons (.ite (.cmp .eq (.call (.glb 7300717) (.cons (.loc 127983119658353) .nil)) (.int 0)) (.cons (.ret .none) .nil) .nil) (.cons (.ret (.attr (.meth (.attr (.attr (.loc 1735222900) 440023414132) 1717990261) 525923086182 (.cons (.sub (.loc 127983119658353) (.int 0)) .nil)) 495639820400)) .nil))) }
noncomputable def f_Lock___init__ : FI := { params := [1735222900, 440023414132, 1769300593], dfl := [], body := (.cons (.asgA (.loc 1735222900) 440023414132 (.loc 440023414132)) (.cons (.asgA (.loc 1735222900) 1718577773 (.call (.glb 1718577741) (.cons (.loc 440023414132) (.cons (.loc 1769300593) .nil)))) .nil)) }
noncomputable def f_Lock_acquire : FI := { params := [1735222900, 126883592042095], dfl := [], body := (.cons (.expr (.meth (.attr (.loc 1735222900) 1718577773) 1869246571 (.cons (.loc 126883592042095) .nil))) (.cons (.ret (.meth (.loc 1735222900) 499917877353 (.cons (.loc 126883592042095) .nil))) .nil)) }
noncomputable def f_Lock_holds : FI := { params := [1735222900, 126883592042095], dfl := [], body := (.cons (.ret (.cmp .eq (.meth (.attr (.loc 1735222900) 1718577773) 504464894567 (.cons (.loc 126883592042095) .nil)) (.loc 126883592042095))) .nil) }
noncomputable def f_Lock_release : FI := { params := [1735222900, 126883592042095], dfl := [], body := (.cons (.ret (.meth (.attr (.loc 1735222900) 1718577773) 440089601645 (.cons (.loc 126883592042095) .nil))) .nil) }
noncomputable def f_Lock_fence : FI := { params := [1735222900, 126883592042095], dfl := [], body := (.cons (.asg 127983119658353 (.meth (.attr (.loc 1735222900) 1718577773) 127983119658353 (.cons (.loc 126883592042095) .nil))) (.cons (.ite (.cmp .eq (.call (.glb 7300717) (.cons (.loc 127983119658353) .nil)) (.int 0)) (.cons (.ret .none) .nil) .nil) (.cons (.ret (.attr (.meth (.attr (.attr (.loc 1735222900) 440023414132) 1717990261) 525923086182 (.cons (.sub (.loc 127983119658353) (.int 0)) .nil)) 1717920366)) .nil))) }
noncomputable def f_law : FI := { params := [129129977701492], dfl := [], body := (.cons (.ite (.cmp .lt (.call (.glb 7300717) (.cons (.loc 129129977701492) .nil)) (.int 11)) (.cons (.ret (.bool true)) .nil) .nil) (.cons (.asg 440023414132 (.call (.glb 440023414100) .nil)) (.cons (.asg 7367032 (.listc (.meth (.loc 440023414132) 1868984688 (.cons (.loc 1936094326) (.cons (.int 90) .nil))) [1936094326] (.list (.cons (.str [97, 110, 110]) (.cons (.str [98, 111, 98]) (.cons (.str [99, 105, 100]) .nil)))) .nil)) (.cons (.asg 1818521709 (.call (.glb 1818521677) (.cons (.loc 440023414132) (.cons (.str [47, 108, 111, 99, 107, 115, 47, 111, 110, 101]) .nil)))) (.cons (.asg 1718577773 (.list .nil)) (.cons (.asg 127983120508519 (.list .nil)) (.cons (.asg 6716006 (.meth (.loc 440023414132) 1868984688 (.cons (.str [101, 121, 101]) (.cons (.int 90) .nil)))) (.cons (.for1 [108] (.call (.glb 439838794355) (.cons (.bin .mod (.sub (.loc 129129977701492) (.int 0)) (.int 11)) .nil)) (.cons (.asg 440073544311 (.bin .add (.sub (.loc 129129977701492) (.bin .add (.int 1) (.bin .mod (.loc 108) (.int 10)))) (.bin .mul (.loc 108) (.int 7)))) (.cons (.asg 1970303348 (.bin .mod (.loc 440073544311) (.int 3))) (.cons (.asg 7693410 (.bin .mod (.bin .fdiv (.loc 440073544311) (.int 3)) (.int 4))) (.cons (.ite (.cmp .isin (.sub (.loc 7367032) (.loc 1970303348)) (.attr (.loc 440023414132) 8390048233337153140)) (.cons (.ite (.cmp .lt (.loc 7693410) (.int 2)) (.cons (.asg 1701668457 (.meth (.loc 1818521709) 28837348715422818 (.cons (.sub (.loc 7367032) (.loc 1970303348)) .nil))) (.cons (.ite (.cmp .notin (.loc 1970303348) (.loc 1718577773)) (.cons (.expr (.meth (.loc 1718577773) 111529134485858 (.cons (.loc 1970303348) .nil))) .nil) .nil) (.cons (.ite (.cmp .ne (.loc 1701668457) (.cmp .eq (.sub (.loc 1718577773) (.int 0)) (.loc 1970303348))) (.cons (.ret (.bool false)) .nil) .nil) .nil))) (.cons (.ite (.cmp .eq (.loc 7693410) (.int 2)) (.cons (.ite (.cmp .ne (.meth (.loc 1818521709) 28838413598549619 (.cons (.sub (.loc 7367032) (.loc 1970303348)) .nil)) (.cmp .isin (.loc 1970303348) (.loc 1718577773))) (.cons (.ret (.bool false)) .nil) .nil) (.cons (.asgC 1718577773 (.loc 6713200) [6713200] (.loc 1718577773) (.cons (.cmp .ne (.loc 6713200) (.loc 1970303348)) .nil)) .nil)) (.cons (.ite (.cmp .eq (.bin .mod (.bin .fdiv (.loc 440073544311) (.int 12)) (.int 3)) (.int 0)) (.cons (.expr (.meth (.loc 440023414132) 440040189284 (.cons (.sub (.loc 7367032) (.loc 1970303348)) .nil))) (.cons (.asgC 1718577773 (.loc 6713200) [6713200] (.loc 1718577773) (.cons (.cmp .ne (.loc 6713200) (.loc 1970303348)) .nil)) .nil)) .nil) .nil)) .nil)) .nil) .nil) (.cons (.asgC 32777980923965545 (.loc 6713200) [6713200] (.call (.glb 439838794355) (.cons (.int 3) .nil)) (.cons (.and (.cons (.cmp .isin (.sub (.loc 7367032) (.loc 6713200)) (.attr (.loc 440023414132) 8390048233337153140)) (.cons (.meth (.loc 1818521709) 499917877353 (.cons (.sub (.loc 7367032) (.loc 6713200)) .nil)) .nil))) .nil)) (.cons (.ite (.cmp .ne (.loc 32777980923965545) (.slice (.loc 1718577773) true (.int 1))) (.cons (.ret (.bool false)) .nil) .nil) (.cons (.asg 439771686503 (.meth (.loc 1818521709) 439771686503 (.cons (.loc 6716006) .nil))) (.cons (.ite (.and (.cons (.cmp .isnt (.loc 439771686503) .none) (.cons (.cmp .notin (.loc 439771686503) (.loc 127983120508519)) .nil))) (.cons (.expr (.meth (.loc 127983120508519) 111529134485858 (.cons (.loc 439771686503) .nil))) .nil) .nil) .nil))))))))) (.cons (.ret (.cmp .eq (.tuple (.cons (.loc 127983120508519) (.cons (.meth (.loc 440023414132) 128047696470631 .nil) .nil))) (.tuple (.cons (.call (.glb 111490731569268) (.cons (.loc 127983120508519) .nil)) (.cons (.list .nil) .nil))))) .nil))))))))) }
noncomputable def c_Entry : CI := { meths := [(6944679725401530464, 161), (7893107, 168), (2054254692, 175)], flds := [28541571379128676, 32482276888965220, 1651860069, 1952803436, 440039269997, 1717920366, 495639820400, 128047628446323, 31367324937447031] }
noncomputable def c_Tree : CI := { meths := [(6944679725401530464, 196), (7627369, 203), (525923086182, 210), (8027230265299069284, 215), (2054254692, 225), (1954050163, 230), (525822161250, 237), (28839513110570080, 244), (28839530407028064, 251)], flds := [32763704688078694] }
noncomputable def c_Snapshot : CI := { meths := [(6944679725401530464, 272)], flds := [8030035183836554867, 1717990261] }
noncomputable def c_Log : CI := { meths := [(6944679725401530464, 293), (6645090, 300), (1970561645, 307), (478526204002, 331)], flds := [1954050163, 8462379648668561268, 504447006068] }
noncomputable def c_Session : CI := { meths := [(6944679725401530464, 378)], flds := [435727525481, 126883592042095, 33062797402073717, 1936094326] }
noncomputable def c_Store : CI := { meths := [(6944679725401530464, 479), (32482199562776416, 486), (1868984688, 494), (31367324937512564, 501), (440040189284, 515), (1701799520, 520), (29682873038698336, 525), (33049594806953056, 573), (7598815489333555552, 580), (7627369, 608), (8027230265299069284, 615), (112654348088164, 623), (112654415652453, 639), (112628813619808, 646), (128030399100000, 667), (487050277984, 674), (28839513110570080, 681), (7365984, 688), (478526204002, 724), (128047696470631, 731)], flds := [504381206628, 1902536300, 127983388092013, 6844525, 8030035183836554867, 8390048233337153140, 1818520181, 1717990261, 32763700141449848] }
noncomputable def c_Line : CI := { meths := [(6944679725401530464, 766), (127983119658353, 771), (439770836337, 778), (1869246571, 786), (440089601645, 793), (504464894567, 800)], flds := [1769300593, 440023414132] }
noncomputable def c_Lock : CI := { meths := [(6944679725401530464, 828), (28837348715422818, 835), (499917877353, 842), (28838413598549619, 856), (439771686503, 870)], flds := [1718577773, 440023414132] }
noncomputable def fns : List (Nat × FI) := [(103, f_need), (110, f_parent), (117, f_last), (124, f_join), (138, f_numbered), (145, f_number_of), (161, f_Entry___init__), (168, f_Entry_row), (175, f_Entry_copy), (196, f_Tree___init__), (203, f_Tree_has), (210, f_Tree_entry), (215, f_Tree_children), (225, f_Tree_copy), (230, f_Tree_rows), (237, f_Tree_apply), (244, f_Tree__create), (251, f_Tree__delete), (272, f_Snapshot___init__), (293, f_Log___init__), (300, f_Log_add), (307, f_Log_last), (331, f_Log_again), (343, f_need_rights), (350, f_rights_of), (357, f_may), (364, f_need_right), (378, f_Session___init__), (399, f_need_ticks), (406, f_need_user), (479, f_Store___init__), (486, f_Store__number), (494, f_Store_open), (501, f_Store_session), (515, f_Store_close), (520, f_Store__end), (525, f_Store__vanish), (573, f_Store__commit), (580, f_Store__publish), (608, f_Store_has), (615, f_Store_children), (623, f_Store_create), (639, f_Store_delete), (646, f_Store__alone), (667, f_Store__steps), (674, f_Store__step), (681, f_Store__create), (688, f_Store__do), (724, f_Store_again), (731, f_Store_faults), (745, f__version), (752, f_made), (766, f_Line___init__), (771, f_Line_places), (778, f_Line_place), (786, f_Line_join), (793, f_Line_leave), (800, f_Line_first), (828, f_Lock___init__), (835, f_Lock_acquire), (842, f_Lock_holds), (856, f_Lock_release), (870, f_Lock_fence), (882, f_law)]
noncomputable def clss : List (Nat × CI) := [(178, c_Entry), (254, c_Tree), (275, c_Snapshot), (334, c_Log), (388, c_Session), (734, c_Store), (810, c_Line), (873, c_Lock)]
noncomputable def glbs : List (Nat × AV) := [(469986605152, (.obj 21)), (545146499936607190152532, (.obj 48)), (111490546755141, (.obj 61)), (8459003018227970116, (.obj 73)), (112628813098838, (.obj 94)), (362107390548, (.str [97, 98, 99, 100, 101, 102, 103, 104, 105, 106, 107, 108, 109, 110, 111, 112, 113, 114, 115, 116, 117, 118, 119, 120, 121, 122, 48, 49, 50, 51, 52, 53, 54, 55, 56, 57, 45, 95, 46])), (24018033858007117, (.int (40))), (1701209711, (.obj 103)), (129121320657521, (.obj 110)), (1970561645, (.obj 117)), (1869246571, (.obj 124)), (549739878588327502966891, (.obj 124)), (8678556768464303210, (.obj 131)), (7306654329047250543, (.obj 138)), (1908112238605688010351, (.obj 145)), (1330008400, (.obj 147)), (525923086150, (.obj 178)), (1717990229, (.obj 254)), (8462379648668561236, (.obj 275)), (6844493, (.obj 334)), (23735459588163149, (.str [97, 99, 100, 114, 119])), (140789856385873457589937775, (.obj 343)), (1908112239769724414579, (.obj 350)), (8020590, (.obj 357)), (554461310576473324021359, (.obj 364)), (31367324937512532, (.obj 388)), (549793996097647679006319, (.obj 399)), (2128758224322155669103, (.obj 406)), (361940077132, (.obj 407)), (1431588942, (.int (20))), (452656980568, (.obj 459)), (362140816724, (.obj 464)), (440023414100, (.obj 734)), (8030035183986440032, (.obj 745)), (1717920366, (.obj 752)), (1718577741, (.obj 810)), (1818521677, (.obj 873)), (7889517, (.obj 882)), (7300717, (.bi .len)), (439838794355, (.typ .range)), (111490731569268, (.bi .sorted)), (1718712949, (.typ .type)), (7566708, (.typ .str)), (7696234, (.typ .int)), (439922816629, (.typ .tuple)), (1970563693, (.typ .list)), (1969515109, (.typ .dict)), (7955054, (.bi .max)), (1836085347, (.typ .bool))]
noncomputable def tops : List (Nat × List AV) := [(146, [(.str [42]), (.str [97, 99, 100, 114, 119])]), (147, [(.obj 146)]), (407, [(.str [101, 110, 116, 114, 121]), (.str [99, 104, 105, 108, 100, 114, 101, 110]), (.str [98, 101, 108, 111, 119])]), (464, [(.str [99, 104, 101, 99, 107]), (.str [99, 114, 101, 97, 116, 101]), (.str [115, 101, 116]), (.str [100, 101, 108, 101, 116, 101]), (.str [103, 101, 116])])]
noncomputable def G : Tab := { fns := fns, cls := clss, glb := glbs, top := tops }
noncomputable abbrev lawAt : Nat := 882
theorem tC {c : Cx} (hG : c.G = G) {C : Nat} {ci : CI} (h : lk G.cls C = some ci) : lk c.G.cls C = some ci := by rw [hG]; exact h
theorem tF {c : Cx} (hG : c.G = G) {C : Nat} {ci : FI} (h : lk G.fns C = some ci) : lk c.G.fns C = some ci := by rw [hG]; exact h
theorem tG {c : Cx} (hG : c.G = G) {C : Nat} {ci : AV} (h : lk G.glb C = some ci) : lk c.G.glb C = some ci := by rw [hG]; exact h
theorem tA {c : Cx} (hG : c.G = G) {C a : Nat} (h : fld G C a = true) : fld c.G C a = true := by rw [hG]; exact h
theorem tM {c : Cx} (hG : c.G = G) {C m f : Nat} (h : mth G C m = some f) : mth c.G C m = some f := by rw [hG]; exact h
structure En where
 data : AV
 ver : Int
 kids : Int
 own : AV
 lea : AV
 rig : AV
 cnt : Int
 made : Int
 chg : Int
noncomputable abbrev En.vs (e : En) : List AV := [e.data, .int e.ver, .int e.kids, e.own, e.lea, e.rig, .int e.cnt, .int e.made, .int e.chg]
noncomputable abbrev En.ob (e : En) : AO := .inst 178 [(1651860069, e.data), (31367324937447031, .int e.ver), (1952803436, .int e.kids), (495639820400, e.own), (440039269997, e.lea), (128047628446323, e.rig), (32482276888965220, .int e.cnt), (1717920366, .int e.made), (28541571379128676, .int e.chg)]
section
variable {c : Cx} (ok : Ok c) (hG : c.G = G) {d : Nat} {T : Hp}
include ok hG
theorem entry_init {dt ow le ri : AV} {ma : Int} (hn : 1 ≤ T.n) : CaP c (hnew T (.inst 178 [])) 161 [.ref T.n, dt, ow, le, ri, .int ma] (d + 1) fun u T' => u = .none ∧ T'.get T.n = some (En.ob ⟨dt, 0, 0, ow, le, ri, 0, ma, ma⟩) ∧ Upd T.n All T T' ∧ T'.n = T.n + 1 := by
 refine C_funQ ok (l := [(1735222900, _), (1651860069, _), (495639820400, _), (440039269997, _), (128047628446323, _), (8030035183836554867, _)]) (tF hG rfl) rfl fun Qz hQ => ?_
 apply X_consP
 apply S_asgL ok
 refine E_loc rfl ?_
 apply k_al
 exact rfl
 ·(with_reducible repeat' first | assumption | exact get_new _ _ | apply get_put | apply get_old | refine get_nf (by assumption) ?_ | apply get_kd | with_unfolding_all rfl)
 exact tA hG rfl
 exact lb rfl
 first | assumption | exact Nat.le_add_left 1 _ | exact lb rfl
 apply X_consP
 apply S_asgL ok
 apply E_int
 apply k_al
 exact rfl
 ·(with_reducible repeat' first | assumption | exact get_new _ _ | apply get_put | apply get_old | refine get_nf (by assumption) ?_ | apply get_kd | with_unfolding_all rfl)
 exact tA hG rfl
 exact lb rfl
 first | assumption | exact Nat.le_add_left 1 _ | exact lb rfl
 apply X_consP
 apply S_asgL ok
 apply E_int
 apply k_al
 exact rfl
 ·(with_reducible repeat' first | assumption | exact get_new _ _ | apply get_put | apply get_old | refine get_nf (by assumption) ?_ | apply get_kd | with_unfolding_all rfl)
 exact tA hG rfl
 exact lb rfl
 first | assumption | exact Nat.le_add_left 1 _ | exact lb rfl
 apply X_consP
 apply S_asgL ok
 refine E_loc rfl ?_
 apply k_al
 exact rfl
 ·(with_reducible repeat' first | assumption | exact get_new _ _ | apply get_put | apply get_old | refine get_nf (by assumption) ?_ | apply get_kd | with_unfolding_all rfl)
 exact tA hG rfl
 exact lb rfl
 first | assumption | exact Nat.le_add_left 1 _ | exact lb rfl
 apply X_consP
 apply S_asgL ok
 refine E_loc rfl ?_
 apply k_al
 exact rfl
 ·(with_reducible repeat' first | assumption | exact get_new _ _ | apply get_put | apply get_old | refine get_nf (by assumption) ?_ | apply get_kd | with_unfolding_all rfl)
 exact tA hG rfl
 exact lb rfl
 first | assumption | exact Nat.le_add_left 1 _ | exact lb rfl
 apply X_consP
 apply S_asgL ok
 refine E_loc rfl ?_
 apply k_al
 exact rfl
 ·(with_reducible repeat' first | assumption | exact get_new _ _ | apply get_put | apply get_old | refine get_nf (by assumption) ?_ | apply get_kd | with_unfolding_all rfl)
 exact tA hG rfl
 exact lb rfl
 first | assumption | exact Nat.le_add_left 1 _ | exact lb rfl
 apply X_consP
 apply S_asgL ok
 apply E_int
 apply k_al
 exact rfl
 ·(with_reducible repeat' first | assumption | exact get_new _ _ | apply get_put | apply get_old | refine get_nf (by assumption) ?_ | apply get_kd | with_unfolding_all rfl)
 exact tA hG rfl
 exact lb rfl
 first | assumption | exact Nat.le_add_left 1 _ | exact lb rfl
 apply X_consP
 apply S_asgL ok
 refine E_loc rfl ?_
 apply k_al
 exact rfl
 ·(with_reducible repeat' first | assumption | exact get_new _ _ | apply get_put | apply get_old | refine get_nf (by assumption) ?_ | apply get_kd | with_unfolding_all rfl)
 exact tA hG rfl
 exact lb rfl
 first | assumption | exact Nat.le_add_left 1 _ | exact lb rfl
 apply X_consP
 apply S_asgL ok
 refine E_loc rfl ?_
 apply k_al
 exact rfl
 ·(with_reducible repeat' first | assumption | exact get_new _ _ | apply get_put | apply get_old | refine get_nf (by assumption) ?_ | apply get_kd | with_unfolding_all rfl)
 exact tA hG rfl
 exact lb rfl
 first | assumption | exact Nat.le_add_left 1 _ | exact lb rfl
 apply X_nilP
 apply hQ
 exact ⟨rfl, get_put (get_put (get_put (get_put (get_put (get_put (get_put (get_put (get_put (get_new _ _))))))))), ((((((((Upd.refl.new.put (Nat.le_refl _)).put (Nat.le_refl _)).put (Nat.le_refl _)).put (Nat.le_refl _)).put (Nat.le_refl _)).put (Nat.le_refl _)).put (Nat.le_refl _)).put (Nat.le_refl _)).put (Nat.le_refl _), rfl⟩
theorem entry_copy {e : En} {r : Nat} (hn : 1 ≤ T.n) (h : T.get r = some e.ob) : CaP c T 175 [.ref r] (d + 3) fun u T' => u = .ref T.n ∧ T'.get T.n = some e.ob ∧ Upd T.n All T T' ∧ T'.n = T.n + 1 := by
 refine C_funQ ok (l := [(1735222900, _)]) (tF hG rfl) rfl fun Qz hQ => ?_
 obtain ⟨_, T1, h1, rfl, g1, u1, n1⟩ := entry_init ok hG (d := d) (dt := e.data) (ow := e.own) (le := e.lea) (ri := e.rig) (ma := e.made) hn
 have ne := Nat.ne_of_lt (lt_of_get h)
 have p := lt_of_get g1
 have g0 := u1.get (r := r) trivial h
 apply X_consP
 apply S_asg
 refine E_new ok (tG hG rfl) (tC hG rfl) rfl ?_
 apply Es_cons
 apply E_la ok
 exact rfl
 ·(with_reducible repeat' first | assumption | exact get_new _ _ | apply get_put | apply get_old | refine get_nf (by assumption) ?_ | apply get_kd | with_unfolding_all rfl)
 exact tA hG rfl
 exact rfl
 apply Es_cons
 apply E_la ok
 exact rfl
 ·(with_reducible repeat' first | assumption | exact get_new _ _ | apply get_put | apply get_old | refine get_nf (by assumption) ?_ | apply get_kd | with_unfolding_all rfl)
 exact tA hG rfl
 exact rfl
 apply Es_cons
 apply E_la ok
 exact rfl
 ·(with_reducible repeat' first | assumption | exact get_new _ _ | apply get_put | apply get_old | refine get_nf (by assumption) ?_ | apply get_kd | with_unfolding_all rfl)
 exact tA hG rfl
 exact rfl
 apply Es_cons
 apply E_la ok
 exact rfl
 ·(with_reducible repeat' first | assumption | exact get_new _ _ | apply get_put | apply get_old | refine get_nf (by assumption) ?_ | apply get_kd | with_unfolding_all rfl)
 exact tA hG rfl
 exact rfl
 apply Es_cons
 apply E_la ok
 exact rfl
 ·(with_reducible repeat' first | assumption | exact get_new _ _ | apply get_put | apply get_old | refine get_nf (by assumption) ?_ | apply get_kd | with_unfolding_all rfl)
 exact tA hG rfl
 exact rfl
 apply Es_nil
 refine k_ca (h1) ?_
 apply k_no
 apply X_consP
 apply S_asgL ok
 apply E_la ok
 exact rfl
 ·(with_reducible repeat' first | assumption | exact get_new _ _ | apply get_put | apply get_old | refine get_nf (by assumption) ?_ | apply get_kd | with_unfolding_all rfl)
 exact tA hG rfl
 exact rfl
 apply k_al
 exact rfl
 ·(with_reducible repeat' first | assumption | exact get_new _ _ | apply get_put | apply get_old | refine get_nf (by assumption) ?_ | apply get_kd | with_unfolding_all rfl)
 exact tA hG rfl
 exact lb rfl
 first | assumption | exact Nat.le_add_left 1 _ | exact lb rfl
 apply X_consP
 apply S_asgL ok
 apply E_la ok
 exact rfl
 ·(with_reducible repeat' first | assumption | exact get_new _ _ | apply get_put | apply get_old | refine get_nf (by assumption) ?_ | apply get_kd | with_unfolding_all rfl)
 exact tA hG rfl
 exact rfl
 apply k_al
 exact rfl
 ·(with_reducible repeat' first | assumption | exact get_new _ _ | apply get_put | apply get_old | refine get_nf (by assumption) ?_ | apply get_kd | with_unfolding_all rfl)
 exact tA hG rfl
 exact lb rfl
 first | assumption | exact Nat.le_add_left 1 _ | exact lb rfl
 apply X_consP
 apply S_asgL ok
 apply E_la ok
 exact rfl
 ·(with_reducible repeat' first | assumption | exact get_new _ _ | apply get_put | apply get_old | refine get_nf (by assumption) ?_ | apply get_kd | with_unfolding_all rfl)
 exact tA hG rfl
 exact rfl
 apply k_al
 exact rfl
 ·(with_reducible repeat' first | assumption | exact get_new _ _ | apply get_put | apply get_old | refine get_nf (by assumption) ?_ | apply get_kd | with_unfolding_all rfl)
 exact tA hG rfl
 exact lb rfl
 first | assumption | exact Nat.le_add_left 1 _ | exact lb rfl
 apply X_consP
 apply S_asgL ok
 apply E_la ok
 exact rfl
 ·(with_reducible repeat' first | assumption | exact get_new _ _ | apply get_put | apply get_old | refine get_nf (by assumption) ?_ | apply get_kd | with_unfolding_all rfl)
 exact tA hG rfl
 exact rfl
 apply k_al
 exact rfl
 ·(with_reducible repeat' first | assumption | exact get_new _ _ | apply get_put | apply get_old | refine get_nf (by assumption) ?_ | apply get_kd | with_unfolding_all rfl)
 exact tA hG rfl
 exact lb rfl
 first | assumption | exact Nat.le_add_left 1 _ | exact lb rfl
 apply X_consP
 apply S_ret
 refine E_loc rfl ?_
 apply hQ
 exact ⟨rfl, get_put (get_put (get_put (get_put g1))), (((u1.put (Nat.le_refl _)).put (Nat.le_refl _)).put (Nat.le_refl _)).put (Nat.le_refl _), n1⟩
end
noncomputable abbrev Es := List (List Nat × En)
structure Nd where
 p : List Nat
 r : Nat
 e : En
noncomputable abbrev Nd.dc (x : Nd) : AV × AV := (.str x.p, .ref x.r)
noncomputable abbrev Nd.pe (x : Nd) : List Nat × En := (x.p, x.e)
noncomputable abbrev trOb (dr : Nat) : AO := .inst 254 [(32763704688078694, .ref dr)]
structure Tree3 (T : Hp) (lo t dr ep : Nat) (xs : List Nd) : Prop where
 ht : T.get t = some (trOb dr)
 hd : T.get dr = some (.dict (xs.map Nd.dc) ep)
 he : ∀ x ∈ xs, T.get x.r = some x.e.ob
 lt : lo ≤ t
 ld : lo ≤ dr
 le : ∀ x ∈ xs, lo ≤ x.r
 nr : (xs.map Nd.r).Nodup
 np : (xs.map Nd.p).Nodup
 sz : xs.length < 60
noncomputable def TreeAt (T : Hp) (lo t : Nat) (es : Es) : Prop := ∃ dr ep xs, Tree3 T lo t dr ep xs ∧ xs.map Nd.pe = es
theorem dlk_no {p : List Nat} {xs : List Nd} (h : p ∉ xs.map Nd.p) : dlk (.str p) (xs.map Nd.dc) = none := by
 induction xs with
 | nil => rfl
 | cons x xs ih =>
  show (if decide (x.p = p) = true then _ else _) = _
  have n : x.p ≠ p := fun e => h (e ▸ .head _)
  rw [if_neg fun e => n (of_decide_eq_true e)]
  exact ih fun m => h (.tail _ m)
theorem dlk_yes {x : Nd} {xs : List Nd} (m : x ∈ xs) (nd : (xs.map Nd.p).Nodup) : dlk (.str x.p) (xs.map Nd.dc) = some (.ref x.r) := by
 induction xs with
 | nil => cases m
 | cons y xs ih =>
  show (if decide (y.p = x.p) = true then _ else _) = _
  have nd := List.nodup_cons.mp nd
  cases m with
  | head => rw [if_pos (decide_eq_true rfl)]
  | tail _ m =>
   have n : y.p ≠ x.p := fun e => nd.1 (e ▸ List.mem_map_of_mem m)
   rw [if_neg fun e => n (of_decide_eq_true e)]
   exact ih m nd.2
theorem kOk_dc {p : List Nat} {xs : List Nd} : kOk (.str p) (xs.map Nd.dc) = true := by cases xs <;> rfl
theorem dpt_new {p : List Nat} {r : Nat} {xs : List Nd} (e : En) (h : p ∉ xs.map Nd.p) : dpt (.str p) (.ref r) (xs.map Nd.dc) = (xs ++ [Nd.mk p r e]).map Nd.dc := by
 induction xs with
 | nil => rfl
 | cons x xs ih =>
  show (if decide (x.p = p) = true then _ else _) = _
  have n : x.p ≠ p := fun e => h (e ▸ .head _)
  rw [if_neg fun e => n (of_decide_eq_true e), ih fun m => h (.tail _ m)]
  rfl
theorem ep_new {p : List Nat} {xs : List Nd} (h : p ∉ xs.map Nd.p) (ep : Nat) : epS (.str p) (xs.map Nd.dc) ep = ep + 1 := by
 unfold epS; rw [dlk_no h]
theorem Nd.sameR {xs : List Nd} (nd : (xs.map Nd.r).Nodup) {x y : Nd} (hx : x ∈ xs) (hy : y ∈ xs) (e : x.r = y.r) : x = y := by
 induction xs with
 | nil => cases hx
 | cons z xs ih =>
  have nd := List.nodup_cons.mp nd
  cases hx with
  | head => cases hy with
   | head => rfl
   | tail _ m => exact absurd (e ▸ List.mem_map_of_mem m) nd.1
  | tail _ m => cases hy with
   | head => exact absurd (e ▸ List.mem_map_of_mem m) nd.1
   | tail _ m2 => exact ih nd.2 m m2
theorem Tree3.upd {T T' : Hp} {P : Nat → AO → Prop} {lo t dr ep : Nat} {xs : List Nd} (x : Tree3 T lo t dr ep xs) (u : Upd T.n P T T') (h1 : ∀ r dr, P r (trOb dr)) (h2 : ∀ r es ep, P r (.dict es ep)) (h3 : ∀ r e, P r (En.ob e)) : Tree3 T' lo t dr ep xs :=
 { x with ht := u.get (h1 _ _) x.ht, hd := u.get (h2 _ _ _) x.hd, he := fun y m => u.get (h3 _ _) (x.he y m) }
theorem Tree3.all {T T' : Hp} {lo t dr ep : Nat} {xs : List Nd} (x : Tree3 T lo t dr ep xs) (u : Upd T.n All T T') : Tree3 T' lo t dr ep xs := x.upd u (fun _ _ => trivial) (fun _ _ _ => trivial) fun _ _ => trivial
theorem TreeAt.upd {T T' : Hp} {P : Nat → AO → Prop} {lo t : Nat} {es : Es} (x : TreeAt T lo t es) (u : Upd T.n P T T') (h1 : ∀ r dr, P r (trOb dr)) (h2 : ∀ r es ep, P r (.dict es ep)) (h3 : ∀ r e, P r (En.ob e)) : TreeAt T' lo t es :=
 let ⟨dr, ep, xs, x, e⟩ := x; ⟨dr, ep, xs, x.upd u h1 h2 h3, e⟩
theorem TreeAt.all {T T' : Hp} {lo t : Nat} {es : Es} (x : TreeAt T lo t es) (u : Upd T.n All T T') : TreeAt T' lo t es := x.upd u (fun _ _ => trivial) (fun _ _ _ => trivial) fun _ _ => trivial
theorem Upd.a {n : Nat} {P : Nat → AO → Prop} {T T' : Hp} (u : Upd n All T T') : Upd n P T T' := u.weak (Nat.le_refl _) fun _ _ _ => trivial
theorem Upd.then {P : Nat → AO → Prop} {T T1 T2 : Hp} {n : Nat} (u : Upd n P T T1) (v : Upd T1.n P T1 T2) (le : n ≤ T1.n) : Upd n P T T2 := u.trans (v.weak le fun _ _ p => p)
section
variable {c : Cx} (ok : Ok c) (hG : c.G = G) {d lo t dr ep : Nat} {T : Hp} {xs : List Nd} {es : Es}
include ok hG
theorem has3 {p : List Nat} {b : Bool} (t3 : Tree3 T lo t dr ep xs) (h : (dlk (.str p) (xs.map Nd.dc)).isSome = b) : Ca c 203 [.ref t, .str p] (d + 1) T (.bool b) T := by
 have ht := t3.ht
 have : CaP c T 203 [.ref t, .str p] (d + 1) fun u T' => u = .bool b ∧ T' = T := by
  refine C_funQ ok (l := [(1735222900, _), (1769300593, _)]) (tF hG rfl) rfl fun Qz hQ => ?_
  apply X_consP
  apply S_ret
  apply E_cmp
  refine E_loc rfl ?_
  apply E_la ok
  exact rfl
  ·(with_reducible repeat' first | assumption | exact get_new _ _ | apply get_put | apply get_old | refine get_nf (by assumption) ?_ | apply get_kd | with_unfolding_all rfl)
  exact tA hG rfl
  exact rfl
  refine k_cm _ (cmt (C_inD t3.hd kOk_dc) h) ?_
  apply hQ
  exact ⟨rfl, rfl⟩
 obtain ⟨_, _, h, rfl, rfl⟩ := this
 exact h
theorem has_yes {p : List Nat} {e : En} (h : TreeAt T lo t es) (m : (p, e) ∈ es) : Ca c 203 [.ref t, .str p] (d + 1) T (.bool true) T := by
 obtain ⟨dr, ep, xs, t3, rfl⟩ := h
 obtain ⟨x, hm, q⟩ := List.mem_map.mp m
 cases q
 exact has3 ok hG t3 (by rw [dlk_yes hm t3.np]; rfl)
theorem has_no {p : List Nat} (h : TreeAt T lo t es) (m : p ∉ es.map (·.1)) : Ca c 203 [.ref t, .str p] (d + 1) T (.bool false) T := by
 obtain ⟨dr, ep, xs, t3, rfl⟩ := h
 rw [List.map_map] at m
 exact has3 ok hG t3 (by rw [dlk_no m]; rfl)
theorem entry3 {x : Nd} (t3 : Tree3 T lo t dr ep xs) (m : x ∈ xs) : Ca c 210 [.ref t, .str x.p] (d + 1) T (.ref x.r) T := by
 have ht := t3.ht
 have q := dlk_yes m t3.np
 have : CaP c T 210 [.ref t, .str x.p] (d + 1) fun u T' => u = .ref x.r ∧ T' = T := by
  refine C_funQ ok (l := [(1735222900, _), (1769300593, _)]) (tF hG rfl) rfl fun Qz hQ => ?_
  apply X_consP
  apply S_if
  apply T_cmpP
  refine E_loc rfl ?_
  apply E_la ok
  exact rfl
  ·(with_reducible repeat' first | assumption | exact get_new _ _ | apply get_put | apply get_old | refine get_nf (by assumption) ?_ | apply get_kd | with_unfolding_all rfl)
  exact tA hG rfl
  exact rfl
  refine k_cm false (cmt (C_ninD t3.hd kOk_dc) (by rw [q]; rfl)) ?_
  apply X_nilP
  apply X_consP
  apply S_ret
  apply E_sub
  apply E_la ok
  exact rfl
  ·(with_reducible repeat' first | assumption | exact get_new _ _ | apply get_put | apply get_old | refine get_nf (by assumption) ?_ | apply get_kd | with_unfolding_all rfl)
  exact tA hG rfl
  exact rfl
  refine E_loc rfl ?_
  refine k_it (I_dict t3.hd kOk_dc q) ?_
  apply hQ
  exact ⟨rfl, rfl⟩
 obtain ⟨_, _, h, rfl, rfl⟩ := this
 exact h
theorem entry_yes {p : List Nat} {e : En} (h : TreeAt T lo t es) (m : (p, e) ∈ es) : ∃ r, Ca c 210 [.ref t, .str p] (d + 1) T (.ref r) T ∧ T.get r = some e.ob := by
 obtain ⟨dr, ep, xs, t3, rfl⟩ := h
 obtain ⟨x, hm, q⟩ := List.mem_map.mp m
 cases q
 exact ⟨x.r, entry3 ok hG t3 hm, t3.he x hm⟩
end
noncomputable abbrev root0 : En := ⟨.str [], 0, 0, .none, .none, .obj 147, 0, 0, 0⟩
theorem nd1 {α : Type} {a : α} : [a].Nodup := List.nodup_cons.mpr ⟨List.not_mem_nil, List.nodup_nil⟩
structure Cp (T : Hp) (n0 A ep : Nat) (ys : List Nd) : Prop where
 hd : T.get A = some (.dict (ys.map Nd.dc) ep)
 he : ∀ y ∈ ys, T.get y.r = some y.e.ob
 le : ∀ y ∈ ys, n0 ≤ y.r
 nr : (ys.map Nd.r).Nodup
theorem get_mid {α β : Type} (f : α → β) (pr : List α) (x : α) (l : List α) : ((pr ++ x :: l).map f)[pr.length]? = some (f x) := by
 rw [List.getElem?_map, List.getElem?_append_right (Nat.le_refl _), Nat.sub_self]; rfl
theorem get_end {α β : Type} (f : α → β) (pr : List α) : (pr.map f)[pr.length]? = none := by
 rw [List.getElem?_map, List.getElem?_eq_none (Nat.le_refl _)]; rfl
theorem dkeys (xs : List Nd) : (xs.map Nd.dc).map (·.1) = xs.map fun x => AV.str x.p := by rw [List.map_map]; rfl
theorem Cp.add {T T1 : Hp} {n0 A ep : Nat} {ys : List Nd} (h : Cp T n0 A ep ys) {p : List Nat} {e : En} (np : p ∉ ys.map Nd.p) (u : Upd T.n All T T1) (g : T1.get T.n = some e.ob) (le : n0 ≤ T.n) : Cp (hput T1 A (.dict (dpt (.str p) (.ref T.n) (ys.map Nd.dc)) (epS (.str p) (ys.map Nd.dc) ep))) n0 A (ep + 1) (ys ++ [⟨p, T.n, e⟩]) := by
 have g0 := u.get trivial h.hd
 refine ⟨?_, fun y m => ?_, fun y m => ?_, ?_⟩
 ·rw [← dpt_new e np, ← ep_new np]; exact get_put g0
 ·rcases List.mem_append.mp m with m | m
  ·exact get_kd g0 (u.get trivial (h.he y m)) rfl
  ·cases List.mem_singleton.mp m; exact get_kd g0 g rfl
 ·rcases List.mem_append.mp m with m | m
  ·exact h.le y m
  ·cases List.mem_singleton.mp m; exact le
 ·rw [List.map_append, List.nodup_append]
  refine ⟨h.nr, nd1, fun a ha b hb => ?_⟩
  obtain ⟨y, m, rfl⟩ := List.mem_map.mp ha
  cases List.mem_singleton.mp hb
  exact Nat.ne_of_lt (lt_of_get (h.he y m))
section
variable {c : Cx} (ok : Ok c) (hG : c.G = G) {d lo t dr ep : Nat} {T : Hp} {xs : List Nd} {es : Es}
include ok hG
theorem tree_init (hn : 1 ≤ T.n) : CaP c (hnew T (.inst 254 [])) 196 [.ref T.n] (d + 3) fun u T' => u = .none ∧ TreeAt T' T.n T.n [([47], root0)] ∧ Upd T.n All T T' := by
 refine C_funQ ok (l := [(1735222900, _)]) (tF hG rfl) rfl fun Qz hQ => ?_
 obtain ⟨_, T1, h1, rfl, g1, u1, n1⟩ := entry_init ok hG (T := hnew (hnew T (.inst 254 [])) (.dict [] 0)) (d := d) (dt := .str []) (ow := .none) (le := .none) (ri := .obj 147) (ma := 0) (Nat.le_add_left 1 _)
 have ga : T1.get T.n = some (.inst 254 []) := u1.get trivial (get_old (get_new _ _))
 have gb : T1.get (hnew T (.inst 254 [])).n = some (.dict [] 0) := u1.get trivial (get_new (hnew T (.inst 254 [])) _)
 apply X_consP
 apply S_asgL ok
 apply E_dict ok
 apply P_consP
 apply E_str
 refine E_new ok (tG hG rfl) (tC hG rfl) rfl ?_
 apply Es_cons
 apply E_str
 apply Es_cons
 apply E_none
 apply Es_cons
 apply E_none
 apply Es_cons
 refine E_glb ok (tG hG rfl) ?_
 apply Es_cons
 apply E_int
 apply Es_nil
 refine k_ca (h1) ?_
 apply k_no
 apply P_nilP
 apply k_di
 exact gb
 exact Nat.ble_eq_true_of_le (by first | assumption | exact Nat.le_add_left 1 _ | exact lb rfl)
 exact rfl
 exact List.cons_ne_nil _ _
 exact rfl
 apply k_al
 exact rfl
 ·(with_reducible repeat' first | assumption | exact get_new _ _ | apply get_put | apply get_old | refine get_nf (by assumption) ?_ | apply get_kd | with_unfolding_all rfl)
 exact tA hG rfl
 exact lb rfl
 first | assumption | exact Nat.le_add_left 1 _ | exact lb rfl
 apply X_nilP
 apply hQ
 refine ⟨rfl, ⟨T.n + 1, 1, [⟨[47], T.n + 2, root0⟩], ⟨get_put (get_kd gb ga rfl), get_kd (get_kd gb ga rfl) (get_put gb) rfl, fun x m => ?_, Nat.le_refl _, Nat.le_succ _, fun x m => ?_, nd1, nd1, lb rfl⟩, rfl⟩, ?_⟩
 ·cases List.mem_singleton.mp m
  exact get_kd (get_kd gb ga rfl) (get_kd gb g1 rfl) rfl
 ·cases List.mem_singleton.mp m; exact Nat.le_add_right _ 2
 ·exact ((((Upd.refl.new.new (o := .dict [] 0)).trans (u1.weak (Nat.le_add_right _ 2) fun _ _ _ => trivial))).put (Nat.le_succ _)).put (Nat.le_refl _)
theorem copy_loop {n0 A : Nat} {len : Nat} {v : PE} (hA : n0 ≤ A) (hn0 : 1 ≤ n0) (hd0 : dr < n0) (hlen : xs.length = len) (sz : xs.length < 60) (np : (xs.map Nd.p).Nodup) (l : List Nd) : ∀ (pr ys : List Nd) (ep' : Nat) (T : Hp) (loc : Loc), xs = pr ++ l → T.get t = some (trOb dr) → T.get dr = some (.dict (xs.map Nd.dc) ep) → (∀ x ∈ xs, T.get x.r = some x.e.ob) → Cp T n0 A ep' ys → ys.map Nd.pe = pr.map Nd.pe → n0 ≤ T.n → lk loc 1735222900 = some (.ref t) →
  CoP c (d + 3) loc T (.dict (.loc 1769300593) (.meth (.sub (.attr (.loc 1735222900) 32763704688078694) (.loc 1769300593)) 2054254692 .nil)) A [1769300593] dr (.dict len ep) pr.length .nil fun T' => ∃ ep'' ys', Cp T' n0 A ep'' ys' ∧ ys'.map Nd.pe = xs.map Nd.pe ∧ Upd n0 All T T' := by
 induction l with
 | nil =>
  intro pr ys ep' T loc hx ht hd he cp hy hn hs
  rw [List.append_nil] at hx
  subst hx
  exact Co_endP (turnD hd (by rw [List.length_map]; exact hlen) (by rw [dkeys]; exact get_end _ _)) ⟨_, _, cp, hy, Upd.refl⟩
 | cons x l ih =>
  intro pr ys ep' T loc hx ht hd he cp hy hn hs
  have mx : x ∈ xs := hx ▸ List.mem_append_right _ (.head _)
  have q := dlk_yes mx np
  obtain ⟨_, T1, h1, rfl, g1, u1, n1⟩ := entry_copy ok hG (d := d) (Nat.le_trans hn0 hn) (he x mx)
  have ne : dr ≠ A := Nat.ne_of_lt (Nat.lt_of_lt_of_le hd0 hA)
  have npx : x.p ∉ ys.map Nd.p := by
   have e : ys.map Nd.p = pr.map Nd.p := by
    have := congrArg (List.map (·.1)) hy
    rw [List.map_map, List.map_map] at this; exact this
   rw [e]
   rw [hx, List.map_append, List.nodup_append] at np
   exact fun m => np.2.2 _ m _ (.head _) rfl
  have cp1 := cp.add npx u1 g1 hn
  have gA := u1.get trivial cp.hd
  have yl : ys.length < 60 := by
   have := congrArg List.length hy
   rw [List.length_map, List.length_map] at this
   rw [this]; rw [hx, List.length_append] at sz
   exact Nat.lt_of_le_of_lt (Nat.le_add_right _ _) sz
  refine Co_dictP (turnD hd (by rw [List.length_map]; exact hlen) (by rw [dkeys, hx]; exact get_mid _ _ _ _)) bind_one ?_
  have k1 : lk (pt loc 1769300593 (.str x.p)) 1769300593 = some (.str x.p) := by rw [lk_pt, if_pos rfl]
  have k2 : lk (pt loc 1769300593 (.str x.p)) 1735222900 = some (.ref t) := by rw [lk_pt, if_neg (by decide)]; exact hs
  apply Te_nilP; apply k_ye
  refine E_loc k1 ?_
  apply E_meth ok; apply E_sub
  refine E_la ok k2 ht (tA hG rfl) rfl ?_
  refine E_loc k1 ?_
  refine k_it (I_dict hd kOk_dc q) ?_
  refine k_mt2 (he x mx) (tM hG rfl) rfl ?_
  apply Es_nil
  refine k_ca h1 ?_
  refine k_dp gA kOk_dc (by rw [List.length_map]; exact Nat.lt_trans yl (lb rfl)) (Nat.le_trans hn0 hA) ?_
  have := ih (pr ++ [x]) _ _ _ (pt loc 1769300593 (.str x.p)) (by rw [hx, List.append_assoc]; rfl) (get_kd gA (u1.get trivial ht) rfl) (get_nf ne (u1.get trivial hd)) (fun y m => get_kd gA (u1.get trivial (he y m)) rfl) cp1 (by rw [List.map_append, List.map_append, hy]; rfl) (show n0 ≤ T1.n from n1 ▸ Nat.le_succ_of_le hn) k2
  rw [List.length_append] at this
  obtain ⟨T', h2, ep'', ys', c2, e2, u2⟩ := this
  exact ⟨T', h2, ep'', ys', c2, e2, ((u1.weak hn fun _ _ _ => trivial).put hA).trans u2⟩
theorem tree_copy (h : TreeAt T lo t es) (hn : 1 ≤ T.n) : CaP c T 225 [.ref t] (d + 5) fun u T' => u = .ref T.n ∧ TreeAt T' T.n T.n es ∧ Upd T.n All T T' := by
 obtain ⟨dr, ep, xs, t3, rfl⟩ := h
 refine C_funQ ok (l := [(1735222900, _)]) (tF hG rfl) rfl fun Qz hQ => ?_
 obtain ⟨_, T1, h1, rfl, ⟨dr1, ep1, xs1, t31, hx1⟩, u1⟩ := tree_init ok hG (T := T) (d := d) hn
 have l1 := lt_of_get t31.ht
 have ht := u1.get trivial t3.ht
 have hd := u1.get trivial t3.hd
 have := copy_loop ok hG (d := d + 1) (n0 := T1.n) (A := T1.n) (t := t) (dr := dr) (ep := ep) (Nat.le_refl _) (Nat.le_trans hn u1.1) (lt_of_get hd) rfl t3.sz t3.np (v := .none) xs [] [] 0 (hnew T1 (.dict [] 0)) (rm [k_dot0, 1769300593] [(1735222900, .ref t), (495639426416, .ref T.n)]) rfl (get_old ht) (get_old hd) (fun x m => get_old (u1.get trivial (t3.he x m))) ⟨get_new _ _, fun y m => (by cases m), fun y m => (by cases m), List.nodup_nil⟩ rfl (Nat.le_succ _) rfl
 obtain ⟨T2, h2, ep2, ys, cp, hy, u2⟩ := this
 have gt : T2.get T.n = some (trOb dr1) := u2.2 _ _ l1 trivial (get_old t31.ht)
 apply X_consP
 apply S_asg
 refine E_new ok (tG hG rfl) (tC hG rfl) rfl ?_
 apply Es_nil
 refine k_ca (h1) ?_
 apply k_no
 apply X_consP
 apply S_asgL ok
 apply E_dictc ok
 apply E_la ok
 exact rfl
 ·(with_reducible repeat' first | assumption | exact get_new _ _ | apply get_put | apply get_old | refine get_nf (by assumption) ?_ | apply get_kd | with_unfolding_all rfl)
 exact tA hG rfl
 exact rfl
 refine k_ik (show IkOf T1 dr (.dict xs.length ep) from ⟨_, hd, List.length_map _⟩) ?_
 refine k_co (h2) ?_
 apply k_al
 exact rfl
 ·(with_reducible repeat' first | assumption | exact get_new _ _ | apply get_put | apply get_old | refine get_nf (by assumption) ?_ | apply get_kd | with_unfolding_all rfl)
 exact tA hG rfl
 exact lb rfl
 first | assumption | exact Nat.le_add_left 1 _ | exact lb rfl
 apply X_consP
 apply S_ret
 refine E_loc rfl ?_
 apply hQ
 have ln : ys.length = xs.length := by
  have := congrArg List.length hy
  rw [List.length_map, List.length_map] at this; exact this
 have e : ys.map Nd.p = xs.map Nd.p := by
  have := congrArg (List.map (·.1)) hy
  rw [List.map_map, List.map_map] at this; exact this
 refine ⟨rfl, ⟨T1.n, ep2, ys, ⟨get_put gt, get_kd gt cp.hd rfl, fun y m => get_nf (Nat.ne_of_gt (Nat.lt_of_lt_of_le l1 (cp.le y m))) (cp.he y m), Nat.le_refl _, Nat.le_of_lt l1, fun y m => Nat.le_trans (Nat.le_of_lt l1) (cp.le y m), cp.nr, e ▸ t3.np, ln ▸ t3.sz⟩, hy⟩, ?_⟩
 exact (u1.then (Upd.refl.new.trans u2) (Nat.le_of_lt l1)).put (Nat.le_refl _)
end
noncomputable abbrev signs : List Nat := [97, 98, 99, 100, 101, 102, 103, 104, 105, 106, 107, 108, 109, 110, 111, 112, 113, 114, 115, 116, 117, 118, 119, 120, 121, 122, 48, 49, 50, 51, 52, 53, 54, 55, 56, 57, 45, 95, 46]
noncomputable def okName (s : List Nat) : Bool := !s.isEmpty && Nat.ble s.length 40 && !decide (s = [46]) && !decide (s = [46, 46]) && s.all fun b => signs.contains b
noncomputable def names : List Nat → List Nat → List (List Nat)
 | a, [] => [a.reverse]
 | a, x :: l => if x = 47 then a.reverse :: names [] l else names (x :: a) l
noncomputable def rix (p : List Nat) : Nat := p.length - 1 - p.reverse.findIdx (fun x => decide (x = 47))
noncomputable def parL (p : List Nat) : List Nat := if rix p = 0 then [47] else p.take (rix p)
noncomputable def lastL (p : List Nat) : List Nat := p.drop (rix p + 1)
noncomputable def okP (p : List Nat) : Bool := (match p with | [] => false | x :: _ => Nat.beq x 47) && Nat.ble p.length 200 && decide (p[rix p]? = some 47) && ((lastL p).all fun x => !decide (x = 47)) &&
 (decide (p = [47]) || (decide (joinL 47 (names [] (p.drop 1)) = p.drop 1) && !(names [] (p.drop 1)).isEmpty && Nat.ble (names [] (p.drop 1)).length 10 && (names [] (p.drop 1)).all fun n => okName n && !n.contains 47))
structure OkP (p : List Nat) : Prop where
 hd : ∃ q, p = 47 :: q
 len : p.length ≤ 200
 ix : p[rix p]? = some 47
 no : ∀ k, rix p < k → p[k]? ≠ some 47
 nms : p = [47] ∨ (p ≠ [47] ∧ ∃ ns, ns ≠ [] ∧ joinL 47 ns = p.drop 1 ∧ ns.length ≤ 10 ∧ ∀ n ∈ ns, okName n = true ∧ 47 ∉ n)
theorem okP_of {p : List Nat} (h : okP p = true) : OkP p := by
 unfold okP at h
 simp only [Bool.and_eq_true, Bool.or_eq_true] at h
 obtain ⟨⟨⟨⟨h1, h2⟩, h3⟩, h4⟩, h5⟩ := h
 refine ⟨?_, Nat.le_of_ble_eq_true h2, of_decide_eq_true h3, fun k hk e => ?_, ?_⟩
 ·cases p with
  | nil => cases h1
  | cons x q => exact ⟨q, by rw [Nat.eq_of_beq_eq_true h1]⟩
 ·have m : 47 ∈ lastL p := by
   refine List.mem_of_getElem? (i := k - (rix p + 1)) ?_
   unfold lastL
   rw [List.getElem?_drop, Nat.add_sub_cancel' hk]; exact e
  have := List.all_eq_true.mp h4 47 m
  cases this
 ·by_cases z : p = [47]
  ·exact .inl z
  ·rcases h5 with h5 | ⟨⟨⟨h5, h6⟩, h7⟩, h8⟩
   ·exact absurd (of_decide_eq_true h5) z
   ·refine .inr ⟨z, _, fun e => ?_, of_decide_eq_true h5, Nat.le_of_ble_eq_true h7, fun n m => ?_⟩
    ·rw [e] at h6; cases h6
    ·have := List.all_eq_true.mp h8 n m
     rw [Bool.and_eq_true] at this
     refine ⟨this.1, fun m => ?_⟩
     have t := this.2
     rw [List.contains_iff_mem.mpr m] at t; cases t
theorem okName_of {s : List Nat} (h : okName s = true) : s ≠ [] ∧ s.length ≤ 40 ∧ s ≠ [46] ∧ s ≠ [46, 46] ∧ ∀ b ∈ s, b ∈ signs := by
 unfold okName at h
 simp only [Bool.and_eq_true] at h
 obtain ⟨⟨⟨⟨h1, h2⟩, h3⟩, h4⟩, h5⟩ := h
 refine ⟨fun e => ?_, Nat.le_of_ble_eq_true h2, fun e => ?_, fun e => ?_, fun b m => List.contains_iff_mem.mp (List.all_eq_true.mp h5 b m)⟩
 ·subst e; cases h1
 ·subst e; cases h3
 ·subst e; cases h4
theorem pq_no {a b : List Nat} (h : a ≠ b) : pq (.str a) (.str b) = some false := congrArg some (decide_eq_false h)
theorem sq_no {a b : List Nat} (h : b ≠ a) : sq (.str a) (.str b) = false := decide_eq_false (Ne.symm h)
section
variable {c : Cx} (ok : Ok c) (hG : c.G = G) {d lo t dr ep : Nat} {T : Hp} {xs : List Nd} {es : Es}
include ok hG
theorem need_loop {src : Nat} {ns : List (List Nat)} (l : List (List Nat)) : ∀ (pr : List (List Nat)) (T : Hp) (loc : Loc), ns = pr ++ l → (∀ n ∈ l, okName n = true) → T.get src = some (.list (ns.map .str)) →
  ∃ loc' T', Lo c [1718510191] src .list pr.length (.cons (.ite (.or (.cons (.cmp .eq (.loc 1718510191) (.str [])) (.cons (.cmp .gt (.call (.glb 7300717) (.cons (.loc 1718510191) .nil)) (.glb 24018033858007117)) (.cons (.cmp .isin (.loc 1718510191) (.list (.cons (.str [46]) (.cons (.str [46, 46]) .nil)))) (.cons (.cmp .ne (.meth (.loc 1718510191) k_strip (.cons (.glb 362107390548) .nil)) (.str [])) .nil))))) (.cons .bad .nil) .nil) .nil) d loc T (.nxt loc') T' ∧ lk loc' 1769300593 = lk loc 1769300593 ∧ Upd T.n All T T' := by
 induction l with
 | nil =>
  intro pr T loc hx hk hs
  rw [List.append_nil] at hx; subst hx
  exact ⟨_, _, L_end (turnL hs (get_end _ _)), rfl, Upd.refl⟩
 | cons s l ih =>
  intro pr T loc hx hk hs
  obtain ⟨q1, q2, q3, q4, q5⟩ := okName_of (hk s (.head _))
  obtain ⟨loc', T', h2, e2, u2⟩ := ih (pr ++ [s]) (hnew T (.list [.str [46], .str [46, 46]])) (pt loc 1718510191 (.str s)) (by rw [hx, List.append_assoc]; rfl) (fun n m => hk n (.tail _ m)) (get_old hs)
  have kN : lk (pt loc 1718510191 (.str s)) 1718510191 = some (.str s) := by rw [lk_pt, if_pos rfl]
  rw [List.length_append] at h2
  have : ExP c d (pt loc 1718510191 (.str s)) T (.cons (.ite (.or (.cons (.cmp .eq (.loc 1718510191) (.str [])) (.cons (.cmp .gt (.call (.glb 7300717) (.cons (.loc 1718510191) .nil)) (.glb 24018033858007117)) (.cons (.cmp .isin (.loc 1718510191) (.list (.cons (.str [46]) (.cons (.str [46, 46]) .nil)))) (.cons (.cmp .ne (.meth (.loc 1718510191) k_strip (.cons (.glb 362107390548) .nil)) (.str [])) .nil))))) (.cons .bad .nil) .nil) .nil) (fun l T1 => l = pt loc 1718510191 (.str s) ∧ T1 = hnew T (.list [.str [46], .str [46, 46]])) (fun _ _ => False) := by
   apply X_consP; apply S_if; apply T_orP; apply Ts_goP; apply T_cmpP
   refine E_loc kN ?_
   apply E_str
   refine k_cm false (C_eq (pq_no q1)) ?_
   apply k_ye; apply Ts_goP; apply T_cmpP
   refine E_callB ok (tG hG rfl) (.inl ⟨_, rfl⟩) ?_
   apply Es_cons
   refine E_loc kN ?_
   apply Es_nil
   refine k_bc (B_lenS (Nat.lt_of_le_of_lt q2 (lb rfl))) ?_
   refine E_glb ok (tG hG rfl) ?_
   refine k_cm false (cmt C_gt (decide_eq_false (Int.not_lt.mpr (Int.ofNat_le.mpr q2)))) ?_
   apply k_ye; apply Ts_goP; apply T_cmpP
   refine E_loc kN ?_
   apply E_list; apply Es_cons; apply E_str; apply Es_cons; apply E_str; apply Es_nil
   refine k_sh (lb rfl) ?_
   refine k_cm false (cmt (C_in (.inr (get_new _ _)) rfl) (by show (sq _ _ || (sq _ _ || false)) = false; rw [sq_no q3, sq_no q4]; rfl)) ?_
   apply k_ye; apply Ts_goP; apply T_cmpP; apply E_methB
   refine E_loc kN ?_
   refine k_bg G_strip ?_
   apply Es_cons
   refine E_glb ok (tG hG rfl) ?_
   apply Es_nil
   refine k_bm (M_strip0 q5 (Nat.lt_of_le_of_lt q2 (lb rfl))) ?_
   apply E_str
   refine k_cm false (C_ne (t := true) rfl) ?_
   apply k_ye
   apply Ts_nilP
   apply X_nilP
   apply X_nilP
   exact ⟨rfl, rfl⟩
  obtain ⟨_, _, h1, rfl, rfl⟩ | ⟨_, _, _, f⟩ := this
  ·exact ⟨loc', T', L_next (turnL hs (by rw [hx]; exact get_mid _ _ _ _)) bind_one h1 h2, by rw [e2, lk_pt, if_neg (by decide)], Upd.refl.new.then u2 (Nat.le_succ _)⟩
  ·exact f.elim
theorem need_ok {p : List Nat} (hp : OkP p) : CaP c T 103 [.str p] (d + 1) fun u T' => u = .str p ∧ Upd T.n All T T' := by
 obtain ⟨q, rfl⟩ := hp.hd
 refine C_funQ ok (l := [(1769300593, _)]) (tF hG rfl) rfl fun Qz hQ => ?_
 rcases hp.nms with e | ⟨ne, ns, n1, n2, n3, n4⟩
 ·cases e
  apply X_consP
  apply S_if
  apply T_orP
  apply Ts_goP
  apply T_cmpP
  refine E_callB ok (tG hG rfl) (by first | exact .inl ⟨_, rfl⟩ | exact .inr ⟨_, rfl⟩) ?_
  refine Es_loc rfl ?_
  apply Es_nil
  refine k_bc (by first | exact B_typeS | exact B_typeI | exact B_typeT (by (with_reducible repeat' first | assumption | exact get_new _ _ | apply get_put | apply get_old | refine get_nf (by assumption) ?_ | apply get_kd | with_unfolding_all rfl))) ?_
  refine E_glb ok (tG hG rfl) ?_
  refine k_cm false (by first | exact C_isnt0 | exact C_isnt1 rfl | exact C_isntT) ?_
  apply k_ye
  apply Ts_goP
  apply T_notP
  refine T_plainP rfl ?_
  apply E_methB
  refine E_loc rfl ?_
  refine k_bg (G_startswith) ?_
  apply Es_cons
  apply E_str
  apply Es_nil
  refine k_bm (M_startswith) ?_
  apply k_bl
  apply k_ye
  apply Ts_nilP
  apply X_nilP
  apply X_consP
  apply S_if
  apply T_cmpP
  refine E_loc rfl ?_
  apply E_str
  refine k_cm true (C_eq rfl) ?_
  apply X_consP
  apply S_ret
  refine E_loc rfl ?_
  apply hQ
  exact ⟨rfl, Upd.refl⟩
 ·have hl := hp.len
  obtain ⟨loc', T', h2, e2, u2⟩ := need_loop ok hG (d := d) (src := T.n) (ns := ns) ns [] (hnew T (.list (ns.map .str))) [(1769300593, .str (47 :: q))] rfl (fun n m => (n4 n m).1) (get_new _ _)
  apply X_consP
  apply S_if
  apply T_orP
  apply Ts_goP
  apply T_cmpP
  refine E_callB ok (tG hG rfl) (by first | exact .inl ⟨_, rfl⟩ | exact .inr ⟨_, rfl⟩) ?_
  refine Es_loc rfl ?_
  apply Es_nil
  refine k_bc (by first | exact B_typeS | exact B_typeI | exact B_typeT (by (with_reducible repeat' first | assumption | exact get_new _ _ | apply get_put | apply get_old | refine get_nf (by assumption) ?_ | apply get_kd | with_unfolding_all rfl))) ?_
  refine E_glb ok (tG hG rfl) ?_
  refine k_cm false (by first | exact C_isnt0 | exact C_isnt1 rfl | exact C_isntT) ?_
  apply k_ye
  apply Ts_goP
  apply T_notP
  refine T_plainP rfl ?_
  apply E_methB
  refine E_loc rfl ?_
  refine k_bg (G_startswith) ?_
  apply Es_cons
  apply E_str
  apply Es_nil
  refine k_bm (M_startswith) ?_
  apply k_bl
  apply k_ye
  apply Ts_nilP
  apply X_nilP
  apply X_consP
  apply S_if
  apply T_cmpP
  refine E_loc rfl ?_
  apply E_str
  refine k_cm false (C_eq (pq_no ne)) ?_
  apply X_nilP
  apply X_consP
  apply S_for
  apply E_methB
  apply E_slice
  refine E_loc rfl ?_
  apply E_int
  refine k_sl (S_str (Nat.lt_of_le_of_lt hl (lb rfl)) (cut_dn 1 _)) ?_
  refine k_bg (G_split) ?_
  apply Es_cons
  apply E_str
  apply Es_nil
  refine k_bm (M_split n1 (fun p m => (n4 p m).2) n2 (Nat.lt_of_le_of_lt (Nat.le_trans (Nat.le_succ _) hl) (lb rfl)) (Nat.lt_of_le_of_lt n3 (lb rfl))) ?_
  refine k_ik (ikL (get_new _ _)) ?_
  refine k_lo (h2) ?_
  apply X_consP
  apply S_ret
  refine E_loc e2 ?_
  apply hQ
  exact ⟨rfl, Upd.refl.new.then u2 (Nat.le_succ _)⟩
end
noncomputable def numL (p : List Nat) (k : Nat) : List Nat := p ++ List.replicate (10 - (digits k).length) 48 ++ digits k
theorem dig_len {k : Nat} : (digits k).length ≤ 2 ∧ 0 < (digits k).length := by
 unfold digits; split <;> exact ⟨lb rfl, lb rfl⟩
theorem dig_neg {k : Nat} : ((10 : Int) - ((digits k).length : Int)) = ((10 - (digits k).length : Nat) : Int) := by
 unfold digits; split <;> rfl
theorem lt4 {n m : Nat} (h : n ≤ m) (q : Nat.ble (m + 1) 4000 = true) : n < 4000 := Nat.lt_of_le_of_lt h (Nat.le_of_ble_eq_true q)
section
variable {c : Cx} (ok : Ok c) (hG : c.G = G) {d lo t dr ep : Nat} {T : Hp} {xs : List Nd} {es : Es}
include ok hG
theorem parent_ok {p : List Nat} (hp : OkP p) (ne : p ≠ [47]) : CaP c T 110 [.str p] (d + 2) fun u T' => u = .str (parL p) ∧ Upd T.n All T T' := by
 obtain ⟨_, T1, h1, rfl, u1⟩ := need_ok ok hG (d := d) (T := T) hp
 unfold parL
 by_cases z : rix p = 0
 ·rw [if_pos z]
  refine C_funQ ok (l := [(1769300593, _)]) (tF hG rfl) rfl fun Qz hQ => ?_
  apply X_consP
  apply S_if
  apply T_cmpP
  refine E_callF ok (tG hG rfl) (tF hG rfl) ?_
  refine Es_loc rfl ?_
  apply Es_nil
  refine k_ca (h1) ?_
  apply E_str
  refine k_cm false (C_eq (pq_no ne)) ?_
  apply X_nilP
  apply X_consP
  apply S_asg
  apply E_methB
  refine E_loc rfl ?_
  refine k_bg (G_rindex) ?_
  apply Es_cons
  apply E_str
  apply Es_nil
  refine k_bm (M_rindex hp.ix hp.no) ?_
  apply X_consP
  apply S_if
  apply T_cmpP
  refine E_loc rfl ?_
  apply E_int
  refine k_cm true (C_eq (congrArg some (decide_eq_true (by rw [z]; rfl)))) ?_
  apply X_consP
  apply S_ret
  apply E_str
  apply hQ
  exact ⟨rfl, u1⟩
 ·rw [if_neg z]
  refine C_funQ ok (l := [(1769300593, _)]) (tF hG rfl) rfl fun Qz hQ => ?_
  apply X_consP
  apply S_if
  apply T_cmpP
  refine E_callF ok (tG hG rfl) (tF hG rfl) ?_
  refine Es_loc rfl ?_
  apply Es_nil
  refine k_ca (h1) ?_
  apply E_str
  refine k_cm false (C_eq (pq_no ne)) ?_
  apply X_nilP
  apply X_consP
  apply S_asg
  apply E_methB
  refine E_loc rfl ?_
  refine k_bg (G_rindex) ?_
  apply Es_cons
  apply E_str
  apply Es_nil
  refine k_bm (M_rindex hp.ix hp.no) ?_
  apply X_consP
  apply S_if
  apply T_cmpP
  refine E_loc rfl ?_
  apply E_int
  refine k_cm false (C_eq (congrArg some (decide_eq_false fun e => z (Int.ofNat_inj.mp e)))) ?_
  apply X_nilP
  apply X_consP
  apply S_ret
  apply E_slice
  refine E_loc rfl ?_
  refine E_loc rfl ?_
  refine k_sl (S_str (lt4 hp.len rfl) (cut_up _ _)) ?_
  apply hQ
  exact ⟨rfl, u1⟩
theorem last_ok {p : List Nat} (hp : OkP p) : CaP c T 117 [.str p] (d + 2) fun u T' => u = .str (lastL p) ∧ Upd T.n All T T' := by
 refine C_funQ ok (l := [(1769300593, _)]) (tF hG rfl) rfl fun Qz hQ => ?_
 obtain ⟨_, T1, h1, rfl, u1⟩ := need_ok ok hG (d := d) (T := T) hp
 apply X_consP
 apply S_ret
 apply E_slice
 refine E_callF ok (tG hG rfl) (tF hG rfl) ?_
 refine Es_loc rfl ?_
 apply Es_nil
 refine k_ca (h1) ?_
 apply E_bin
 apply E_methB
 refine E_loc rfl ?_
 refine k_bg (G_rindex) ?_
 apply Es_cons
 apply E_str
 apply Es_nil
 refine k_bm (M_rindex hp.ix hp.no) ?_
 apply E_int
 refine k_bi (B_addI) ?_
 refine k_sl (S_str (lt4 hp.len rfl) (cut_dn (rix p + 1) _)) ?_
 apply hQ
 exact ⟨rfl, u1⟩
theorem numbered_ok {p : List Nat} {k : Nat} (hk : k < 100) (hl : p.length ≤ 200) (hp : OkP (numL p k)) : CaP c T 138 [.str p, .int (k : Int)] (d + 2) fun u T' => u = .str (numL p k) ∧ Upd T.n All T T' := by
 refine C_funQ ok (l := [(1769300593, _), (126883592042095, _)]) (tF hG rfl) rfl fun Qz hQ => ?_
 obtain ⟨_, T1, h1, rfl, u1⟩ := need_ok ok hG (d := d) (T := T) hp
 have dl := dig_len (k := k)
 have l1 : p.length + (List.replicate (10 - (digits k).length) 48).length ≤ 210 := by
  rw [List.length_replicate]; exact Nat.add_le_add hl (Nat.sub_le _ _)
 apply X_consP
 apply S_ret
 refine E_callF ok (tG hG rfl) (tF hG rfl) ?_
 apply Es_cons
 apply E_bin
 apply E_bin
 refine E_loc rfl ?_
 apply E_bin
 apply E_str
 apply E_bin
 apply E_int
 refine E_callB ok (tG hG rfl) (by first | exact .inl ⟨_, rfl⟩ | exact .inr ⟨_, rfl⟩) ?_
 apply Es_cons
 refine E_callB ok (tG hG rfl) (by first | exact .inl ⟨_, rfl⟩ | exact .inr ⟨_, rfl⟩) ?_
 refine Es_loc rfl ?_
 apply Es_nil
 refine k_bc (B_strI hk) ?_
 apply Es_nil
 refine k_bc (B_lenS (lt4 dl.1 rfl)) ?_
 refine k_bi (B_subI) ?_
 refine k_bi (B_mulS (Nat.le_trans (Nat.sub_le 10 _) (lb rfl)) dig_neg) ?_
 refine k_bi (B_addS (lt4 l1 rfl)) ?_
 refine E_callB ok (tG hG rfl) (by first | exact .inl ⟨_, rfl⟩ | exact .inr ⟨_, rfl⟩) ?_
 refine Es_loc rfl ?_
 apply Es_nil
 refine k_bc (B_strI hk) ?_
 refine k_bi (B_addS (by rw [List.length_append]; exact lt4 (Nat.add_le_add l1 dl.1) rfl)) ?_
 apply Es_nil
 refine k_ca (h1) ?_
 apply hQ
 exact ⟨rfl, u1⟩
theorem number_of_ok {p : List Nat} {k : Nat} (hk : k < 64) (hl : p.length ≤ 300) (hs : p.drop (p.length - 10) = ten k) (hd : (ten k).all (fun b => decide (48 ≤ b ∧ b ≤ 57)) = true) : Ca c 145 [.str p] (d + 1) T (.int (k : Int)) T := by
 have : CaP c T 145 [.str p] (d + 1) fun u T' => u = .int (k : Int) ∧ T' = T := by
  refine C_funQ ok (l := [(1769300593, _)]) (tF hG rfl) rfl fun Qz hQ => ?_
  apply X_consP
  apply S_asg
  apply E_slice
  refine E_loc rfl ?_
  apply E_neg
  apply E_int
  apply k_in
  refine k_sl (S_str (lt4 hl rfl) ((cut_ng 9 _).trans hs)) ?_
  apply X_consP
  apply S_if
  apply T_orP
  apply Ts_goP
  apply T_cmpP
  refine E_callB ok (tG hG rfl) (by first | exact .inl ⟨_, rfl⟩ | exact .inr ⟨_, rfl⟩) ?_
  refine Es_loc rfl ?_
  apply Es_nil
  refine k_bc (B_lenS (lt4 (show (ten k).length ≤ 10 from Nat.le_refl 10) rfl)) ?_
  apply E_int
  refine k_cm false (C_lt) ?_
  apply k_ye
  apply Ts_goP
  apply T_notP
  refine T_plainP rfl ?_
  apply E_methB
  refine E_loc rfl ?_
  refine k_bg (G_isascii) ?_
  apply Es_nil
  refine k_bm (M_isascii hd) ?_
  apply k_bl
  apply k_ye
  apply Ts_goP
  apply T_notP
  refine T_plainP rfl ?_
  apply E_methB
  refine E_loc rfl ?_
  refine k_bg (G_isdigit) ?_
  apply Es_nil
  refine k_bm (M_isdigit hd (List.cons_ne_nil _ _)) ?_
  apply k_bl
  apply k_ye
  apply Ts_nilP
  apply X_nilP
  apply X_consP
  apply S_ret
  refine E_callB ok (tG hG rfl) (by first | exact .inl ⟨_, rfl⟩ | exact .inr ⟨_, rfl⟩) ?_
  refine Es_loc rfl ?_
  apply Es_nil
  refine k_bc (B_intS hk) ?_
  apply hQ
  exact ⟨rfl, rfl⟩
 obtain ⟨_, _, h, rfl, rfl⟩ := this
 exact h
end
inductive Rch (es : Es) : List Nat → Prop where
 | here {p : List Nat} {e : En} (m : (p, e) ∈ es) (h : e.rig = .obj 147) : Rch es p
 | up {p : List Nat} (hp : OkP p) (ne : p ≠ [47]) (h : p ∉ es.map (·.1) ∨ ∃ e, (p, e) ∈ es ∧ e.rig = .none) (r : Rch es (parL p)) : Rch es p
noncomputable abbrev acdrw : List Nat := [97, 99, 100, 114, 119]
noncomputable abbrev wlT : PE := .or (.cons (.not (.meth (.loc 1717990261) 7627369 (.cons (.loc 1769300593) .nil))) (.cons (.cmp .is (.attr (.meth (.loc 1717990261) 525923086182 (.cons (.loc 1769300593) .nil)) 128047628446323) .none) .nil))
noncomputable abbrev wlB : PSs := .cons (.asg 1769300593 (.call (.glb 129121320657521) (.cons (.loc 1769300593) .nil))) .nil
section
variable {c : Cx} (ok : Ok c) (hG : c.G = G) {d lo t dr ep : Nat} {T : Hp} {xs : List Nd} {es : Es}
theorem M_get0 {r ep d : Nat} {es : List (AV × AV)} {k u : AV} (ho : T.get r = some (.dict es ep)) (hk : kOk k es = true) (h : dlk k es = none) : Bm c "dict.get" (.ref r) [k, u] d T u T := by
 have := M_get (c := c) (d := d) (u := u) ho hk
 rw [h] at this; exact this
theorem M_get1 {r ep d : Nat} {es : List (AV × AV)} {k u v : AV} (ho : T.get r = some (.dict es ep)) (hk : kOk k es = true) (h : dlk k es = some v) : Bm c "dict.get" (.ref r) [k, u] d T v T := by
 have := M_get (c := c) (d := d) (u := u) ho hk
 rw [h] at this; exact this
include ok hG
theorem rights_loop {p : List Nat} (r : Rch es p) : ∀ (T : Hp) (loc : Loc), TreeAt T lo t es → lk loc 1717990261 = some (.ref t) → lk loc 1769300593 = some (.str p) → ∃ loc' T' p' e, Wl c wlT wlB (d + 3) loc T (.nxt loc') T' ∧ lk loc' 1717990261 = some (.ref t) ∧ lk loc' 1769300593 = some (.str p') ∧ (p', e) ∈ es ∧ e.rig = .obj 147 ∧ Upd T.n All T T' := by
 induction r with
 | @here p e m h =>
  intro T loc tr h1 h2
  obtain ⟨r, he, ge⟩ := entry_yes ok hG (d := d + 2) tr m
  have hh := has_yes ok hG (d := d + 2) tr m
  obtain ⟨dr, ep, xs, t3, hx⟩ := id tr
  have ht := t3.ht
  have : WlP c (d + 3) loc T wlT wlB (fun l T1 => l = loc ∧ T1 = T) fun _ _ => False := by
   apply W_endP
   apply T_orP
   apply Ts_goP
   apply T_notP
   refine T_plainP rfl ?_
   apply E_lm ok
   exact h1
   ·(with_reducible repeat' first | assumption | exact get_new _ _ | apply get_put | apply get_old | refine get_nf (by assumption) ?_ | apply get_kd | with_unfolding_all rfl)
   exact tM hG rfl
   exact rfl
   refine Es_loc h2 ?_
   apply Es_nil
   refine k_ca (hh) ?_
   apply k_bl
   apply k_ye
   apply Ts_goP
   apply T_cmpP
   apply E_attr ok
   apply E_lm ok
   exact h1
   ·(with_reducible repeat' first | assumption | exact get_new _ _ | apply get_put | apply get_old | refine get_nf (by assumption) ?_ | apply get_kd | with_unfolding_all rfl)
   exact tM hG rfl
   exact rfl
   refine Es_loc h2 ?_
   apply Es_nil
   refine k_ca (he) ?_
   apply k_at2
   ·(with_reducible repeat' first | assumption | exact get_new _ _ | apply get_put | apply get_old | refine get_nf (by assumption) ?_ | apply get_kd | with_unfolding_all rfl)
   exact tA hG rfl
   exact rfl
   apply E_none
   refine k_cm false (by rw [h]; exact C_is1 rfl) ?_
   apply k_ye
   apply Ts_nilP
   apply k_ye
   exact ⟨rfl, rfl⟩
  obtain ⟨_, _, w, rfl, rfl⟩ | ⟨_, _, _, f⟩ := this
  ·exact ⟨_, _, p, e, w, h1, h2, m, h, Upd.refl⟩
  ·exact f.elim
 | @up p hp ne h r ih =>
  intro T loc tr h1 h2
  obtain ⟨dr, ep, xs, t3, hx⟩ := id tr
  have ht := t3.ht
  obtain ⟨_, T1, hc, rfl, u1⟩ := parent_ok ok hG (d := d + 1) (T := T) hp ne
  obtain ⟨loc', T', p', e, w, a1, a2, a3, a4, a5⟩ := ih T1 (pt loc 1769300593 (.str (parL p))) (tr.all u1) (by rw [lk_pt, if_neg (by decide)]; exact h1) (by rw [lk_pt, if_pos rfl])
  have : WlP c (d + 3) loc T wlT wlB (fun l T2 => l = loc' ∧ T2 = T') fun _ _ => False := by
   apply W_nextP
   rcases h with h | ⟨e0, m, h⟩
   ·have hh := has_no ok hG (d := d + 2) tr h
    apply T_orP
    apply Ts_stopP
    apply T_notP
    refine T_plainP rfl ?_
    apply E_lm ok
    exact h1
    ·(with_reducible repeat' first | assumption | exact get_new _ _ | apply get_put | apply get_old | refine get_nf (by assumption) ?_ | apply get_kd | with_unfolding_all rfl)
    exact tM hG rfl
    exact rfl
    refine Es_loc h2 ?_
    apply Es_nil
    refine k_ca (hh) ?_
    apply k_bl
    apply k_ye
    apply k_ye
    apply X_consP
    apply S_asg
    refine E_callF ok (tG hG rfl) (tF hG rfl) ?_
    refine Es_loc h2 ?_
    apply Es_nil
    refine k_ca (hc) ?_
    apply X_nilP
    exact k_wl w ⟨rfl, rfl⟩
   ·obtain ⟨r, he, ge⟩ := entry_yes ok hG (d := d + 2) tr m
    have hh := has_yes ok hG (d := d + 2) tr m
    apply T_orP
    apply Ts_goP
    apply T_notP
    refine T_plainP rfl ?_
    apply E_lm ok
    exact h1
    ·(with_reducible repeat' first | assumption | exact get_new _ _ | apply get_put | apply get_old | refine get_nf (by assumption) ?_ | apply get_kd | with_unfolding_all rfl)
    exact tM hG rfl
    exact rfl
    refine Es_loc h2 ?_
    apply Es_nil
    refine k_ca (hh) ?_
    apply k_bl
    apply k_ye
    apply Ts_stopP
    apply T_cmpP
    apply E_attr ok
    apply E_lm ok
    exact h1
    ·(with_reducible repeat' first | assumption | exact get_new _ _ | apply get_put | apply get_old | refine get_nf (by assumption) ?_ | apply get_kd | with_unfolding_all rfl)
    exact tM hG rfl
    exact rfl
    refine Es_loc h2 ?_
    apply Es_nil
    refine k_ca (he) ?_
    apply k_at2
    ·(with_reducible repeat' first | assumption | exact get_new _ _ | apply get_put | apply get_old | refine get_nf (by assumption) ?_ | apply get_kd | with_unfolding_all rfl)
    exact tA hG rfl
    exact rfl
    apply E_none
    refine k_cm true (by rw [h]; exact C_is0) ?_
    apply k_ye
    apply k_ye
    apply X_consP
    apply S_asg
    refine E_callF ok (tG hG rfl) (tF hG rfl) ?_
    refine Es_loc h2 ?_
    apply Es_nil
    refine k_ca (hc) ?_
    apply X_nilP
    exact k_wl w ⟨rfl, rfl⟩
  obtain ⟨_, _, w2, rfl, rfl⟩ | ⟨_, _, _, f⟩ := this
  ·exact ⟨_, _, p', e, w2, a1, a2, a3, a4, u1.then a5 u1.1⟩
  ·exact f.elim
theorem rights_ok {p : List Nat} (tr : TreeAt T lo t es) (r : Rch es p) : CaP c T 350 [.ref t, .str p] (d + 4) fun v T' => ∃ r, v = .ref r ∧ T'.get r = some (.dict [(.str [42], .str acdrw)] 1) ∧ Upd T.n All T T' := by
 refine C_funQ ok (l := [(1717990261, _), (1769300593, _)]) (tF hG rfl) rfl fun Qz hQ => ?_
 obtain ⟨loc', T', p', e, w, a1, a2, a3, a4, a5⟩ := rights_loop ok hG (d := d) r T [(1717990261, .ref t), (1769300593, .str p)] tr rfl rfl
 obtain ⟨r, he, ge⟩ := entry_yes ok hG (d := d + 2) (tr.all a5) a3
 obtain ⟨dr, ep, xs, t3, hx⟩ := tr.all a5
 have ht := t3.ht
 have hr : lk c.G.top 147 = some [.obj 146] := by rw [hG]; rfl
 have hr2 : lk c.G.top 146 = some [.str [42], .str acdrw] := by rw [hG]; rfl
 apply X_consP
 apply S_whl
 refine k_wl (w) ?_
 apply X_consP
 apply S_ret
 refine E_callB ok (tG hG rfl) (by first | exact .inl ⟨_, rfl⟩ | exact .inr ⟨_, rfl⟩) ?_
 apply Es_cons
 apply E_attr ok
 apply E_lm ok
 exact a1
 ·(with_reducible repeat' first | assumption | exact get_new _ _ | apply get_put | apply get_old | refine get_nf (by assumption) ?_ | apply get_kd | with_unfolding_all rfl)
 exact tM hG rfl
 exact rfl
 refine Es_loc a2 ?_
 apply Es_nil
 refine k_ca (he) ?_
 apply k_at2
 ·(with_reducible repeat' first | assumption | exact get_new _ _ | apply get_put | apply get_old | refine get_nf (by assumption) ?_ | apply get_kd | with_unfolding_all rfl)
 exact tA hG rfl
 exact rfl
 apply Es_nil
 refine k_bc (by rw [a4]; exact B_dictO ok hr hr2) ?_
 apply hQ
 exact ⟨_, rfl, get_new _ _, a5.new⟩
theorem may_ok {p u : List Nat} {x : Nat} (tr : TreeAt T lo t es) (r : Rch es p) (hu : u ≠ [42]) (hx : acdrw.contains x = true) : CaP c T 357 [.ref t, .str p, .str u, .str [x]] (d + 5) fun v T' => v = .bool true ∧ Upd T.n All T T' := by
 refine C_funQ ok (l := [(1717990261, _), (1769300593, _), (1936094326, _), (126883894486637, _)]) (tF hG rfl) rfl fun Qz hQ => ?_
 obtain ⟨_, T1, h1, r, rfl, g1, u1⟩ := rights_ok ok hG (d := d) tr r
 apply X_consP
 apply S_asg
 refine E_callF ok (tG hG rfl) (tF hG rfl) ?_
 refine Es_loc rfl ?_
 refine Es_loc rfl ?_
 apply Es_nil
 refine k_ca (h1) ?_
 apply X_consP
 apply S_ret
 apply E_cmp
 refine E_loc rfl ?_
 apply E_bin
 apply E_methB
 refine E_loc rfl ?_
 refine k_bg ((G_get (by (with_reducible repeat' first | assumption | exact get_new _ _ | apply get_put | apply get_old | refine get_nf (by assumption) ?_ | apply get_kd | with_unfolding_all rfl)))) ?_
 refine Es_loc rfl ?_
 apply Es_cons
 apply E_str
 apply Es_nil
 refine k_bm (M_get0 g1 rfl (if_neg fun e => hu (of_decide_eq_true e).symm)) ?_
 apply E_methB
 refine E_loc rfl ?_
 refine k_bg ((G_get (by (with_reducible repeat' first | assumption | exact get_new _ _ | apply get_put | apply get_old | refine get_nf (by assumption) ?_ | apply get_kd | with_unfolding_all rfl)))) ?_
 apply Es_cons
 apply E_str
 apply Es_cons
 apply E_str
 apply Es_nil
 refine k_bm (M_get1 g1 rfl rfl) ?_
 refine k_bi (B_addS (lb rfl)) ?_
 refine k_cm _ (cmt C_inS hx) ?_
 apply hQ
 exact ⟨rfl, u1⟩
theorem need_right_ok {p u : List Nat} {x : Nat} (tr : TreeAt T lo t es) (r : Rch es p) (hu : u ≠ [42]) (hx : acdrw.contains x = true) : CaP c T 364 [.ref t, .str p, .str u, .str [x]] (d + 6) fun v T' => v = .none ∧ Upd T.n All T T' := by
 refine C_funQ ok (l := [(1717990261, _), (1769300593, _), (1936094326, _), (126883894486637, _)]) (tF hG rfl) rfl fun Qz hQ => ?_
 obtain ⟨_, T1, h1, rfl, u1⟩ := may_ok ok hG (d := d) tr r hu hx
 apply X_consP
 apply S_if
 apply T_notP
 refine T_plainP rfl ?_
 refine E_callF ok (tG hG rfl) (tF hG rfl) ?_
 refine Es_loc rfl ?_
 refine Es_loc rfl ?_
 refine Es_loc rfl ?_
 refine Es_loc rfl ?_
 apply Es_nil
 refine k_ca (h1) ?_
 apply k_bl
 apply X_nilP
 apply X_nilP
 apply hQ
 exact ⟨rfl, u1⟩
theorem need_rights_ok : Ca c 343 [.none] (d + 1) T .none T := by
 have : CaP c T 343 [.none] (d + 1) fun u T' => u = .none ∧ T' = T := by
  refine C_funQ ok (l := [(128047628446323, _)]) (tF hG rfl) rfl fun Qz hQ => ?_
  apply X_consP
  apply S_if
  apply T_cmpP
  refine E_loc rfl ?_
  apply E_none
  refine k_cm true (by first | exact C_is0 | exact C_is1 rfl | exact C_isT) ?_
  apply X_consP
  apply S_ret
  apply E_none
  apply hQ
  exact ⟨rfl, rfl⟩
 obtain ⟨_, _, h, rfl, rfl⟩ := this
 exact h
end
noncomputable def kid (p q : List Nat) : Bool := !decide (q = [47]) && decide (parL q = p)
noncomputable def kidsL (p : List Nat) (l : List (List Nat)) : List (List Nat) := (l.filter (kid p)).map lastL
noncomputable abbrev chV : PE := .call (.glb 1970561645) (.cons (.loc 6713200) .nil)
noncomputable abbrev chI : PEs := .cons (.and (.cons (.cmp .ne (.loc 6713200) (.str [47])) (.cons (.cmp .eq (.call (.glb 129121320657521) (.cons (.loc 6713200) .nil)) (.loc 1769300593)) .nil))) .nil
theorem kids_snoc {p : List Nat} {l : List (List Nat)} {q : List Nat} : kidsL p (l ++ [q]) = kidsL p l ++ (if kid p q = true then [lastL q] else []) := by
 unfold kidsL
 rw [List.filter_append, List.map_append]
 congr 1
 cases h : kid p q
 ·rw [List.filter_cons_of_neg (by rw [h]; exact Bool.false_ne_true)]; rfl
 ·rw [List.filter_cons_of_pos h]; rfl
theorem kids_len (p : List Nat) (l : List (List Nat)) : (kidsL p l).length ≤ l.length := by
 unfold kidsL; rw [List.length_map]; exact List.length_filter_le _ _
section
variable {c : Cx} (ok : Ok c) (hG : c.G = G) {d lo t dr ep : Nat} {T : Hp} {xs : List Nd} {es : Es}
include ok hG
theorem kids_loop {n0 A len : Nat} {p : List Nat} (hA : n0 ≤ A) (h1 : 1 ≤ A) (hlen : xs.length = len) (sz : xs.length < 60) (hok : ∀ x ∈ xs, OkP x.p) (l : List Nd) : ∀ (pr : List Nd) (T : Hp) (loc : Loc), xs = pr ++ l → T.get dr = some (.dict (xs.map Nd.dc) ep) → T.get A = some (.list ((kidsL p (pr.map Nd.p)).map .str)) → n0 ≤ T.n → lk loc 1769300593 = some (.str p) →
  CoP c (d + 2) loc T (.list chV) A [6713200] dr (.dict len ep) pr.length chI fun T' => T'.get A = some (.list ((kidsL p (xs.map Nd.p)).map .str)) ∧ Upd n0 All T T' := by
 induction l with
 | nil =>
  intro pr T loc hx hd ha hn hs
  rw [List.append_nil] at hx; subst hx
  exact Co_endP (turnD hd (by rw [List.length_map]; exact hlen) (by rw [dkeys]; exact get_end _ _)) ⟨ha, Upd.refl⟩
 | cons x l ih =>
  intro pr T loc hx hd ha hn hs
  have mx : x ∈ xs := hx ▸ List.mem_append_right _ (.head _)
  have tn := turnD hd (len := len) (j := pr.length) (x := some (.str x.p)) (by rw [List.length_map]; exact hlen) (by rw [dkeys, hx]; exact get_mid _ _ _ _)
  have k1 : lk (pt loc 6713200 (.str x.p)) 6713200 = some (.str x.p) := by rw [lk_pt, if_pos rfl]
  have k2 : lk (pt loc 6713200 (.str x.p)) 1769300593 = some (.str p) := by rw [lk_pt, if_neg (by decide)]; exact hs
  have hx2 : xs = (pr ++ [x]) ++ l := by rw [hx, List.append_assoc]; rfl
  have ks := kids_snoc (p := p) (l := pr.map Nd.p) (q := x.p)
  have el : (pr ++ [x]).map Nd.p = pr.map Nd.p ++ [x.p] := by rw [List.map_append]; rfl
  have ih := fun T => ih (pr ++ [x]) T (pt loc 6713200 (.str x.p)) hx2
  rw [List.length_append] at ih
  by_cases z : x.p = [47]
  ·have kz : kid p x.p = false := by unfold kid; rw [decide_eq_true z]; rfl
   rw [kz, if_neg Bool.false_ne_true, List.append_nil] at ks
   refine Co_skipP tn bind_one ?_
   apply Te_stopP
   apply T_andP
   apply Ts_stopP
   apply T_cmpP
   refine E_loc k1 ?_
   apply E_str
   refine k_cm false (C_ne (t := true) (congrArg some (decide_eq_true z))) ?_
   apply k_ye
   apply k_ye
   apply k_ye
   exact ih T hd (by rw [el, ks]; exact ha) hn k2
  ·obtain ⟨_, T1, hc, rfl, u1⟩ := parent_ok ok hG (d := d) (T := T) (hok x mx) z
   have hd1 := u1.get trivial hd
   have ha1 := u1.get trivial ha
   by_cases y : parL x.p = p
   ·have kz : kid p x.p = true := by unfold kid; rw [decide_eq_false z, decide_eq_true y]; rfl
    rw [kz, if_pos rfl] at ks
    obtain ⟨_, T2, hc2, rfl, u2⟩ := last_ok ok hG (d := d) (T := T1) (hok x mx)
    have ha2 := u2.get trivial ha1
    refine Co_listP tn bind_one ?_
    apply Te_goP
    apply T_andP
    apply Ts_goP
    apply T_cmpP
    refine E_loc k1 ?_
    apply E_str
    refine k_cm true (C_ne (t := false) (pq_no z)) ?_
    apply k_ye
    apply Ts_goP
    apply T_cmpP
    refine E_callF ok (tG hG rfl) (tF hG rfl) ?_
    refine Es_loc k1 ?_
    apply Es_nil
    refine k_ca (hc) ?_
    refine E_loc k2 ?_
    refine k_cm true (C_eq (congrArg some (decide_eq_true y))) ?_
    apply k_ye
    apply Ts_nilP
    apply k_ye
    apply Te_nilP
    apply k_ye
    refine E_callF ok (tG hG rfl) (tF hG rfl) ?_
    refine Es_loc k1 ?_
    apply Es_nil
    refine k_ca (hc2) ?_
    apply k_ap
    exact ha2
    rw [List.length_map]; exact lt4 (Nat.le_trans (kids_len _ _) (by rw [List.length_map]; rw [hx, List.length_append] at sz; exact Nat.le_trans (Nat.le_add_right _ _) (Nat.le_of_lt sz))) rfl
    first | assumption | exact Nat.le_add_left 1 _ | exact lb rfl
    obtain ⟨T', h9, g9, u9⟩ := ih _ (get_kd ha2 (u2.get trivial hd1) rfl) (by rw [el, ks, List.map_append]; exact get_put ha2) (Nat.le_trans hn (Nat.le_trans u1.1 u2.1)) k2
    exact ⟨T', h9, g9, ((((u1.weak hn fun _ _ _ => trivial).then u2 (Nat.le_trans hn u1.1))).put hA).trans u9⟩
   ·have kz : kid p x.p = false := by unfold kid; rw [decide_eq_false y, Bool.and_false]
    rw [kz, if_neg Bool.false_ne_true, List.append_nil] at ks
    refine Co_skipP tn bind_one ?_
    apply Te_stopP
    apply T_andP
    apply Ts_goP
    apply T_cmpP
    refine E_loc k1 ?_
    apply E_str
    refine k_cm true (C_ne (t := false) (pq_no z)) ?_
    apply k_ye
    apply Ts_stopP
    apply T_cmpP
    refine E_callF ok (tG hG rfl) (tF hG rfl) ?_
    refine Es_loc k1 ?_
    apply Es_nil
    refine k_ca (hc) ?_
    refine E_loc k2 ?_
    refine k_cm false (C_eq (pq_no y)) ?_
    apply k_ye
    apply k_ye
    apply k_ye
    obtain ⟨T', h9, g9, u9⟩ := ih T1 hd1 (by rw [el, ks]; exact ha1) (Nat.le_trans hn u1.1) k2
    exact ⟨T', h9, g9, (u1.weak hn fun _ _ _ => trivial).trans u9⟩
theorem children_ok {p : List Nat} {e : En} {m : List (List Nat)} (h : TreeAt T lo t es) (me : (p, e) ∈ es) (hn : 1 ≤ T.n) (hok : ∀ q ∈ es, OkP q.1) (pm : m.Perm (kidsL p (es.map (·.1)))) (so : Srt slt m) : CaP c T 215 [.ref t, .str p] (d + 3) fun u T' => ∃ r, u = .ref r ∧ T'.get r = some (.list (m.map .str)) ∧ Upd T.n All T T' := by
 obtain ⟨r, he, ge⟩ := entry_yes ok hG (d := d + 1) h me
 obtain ⟨dr, ep, xs, t3, rfl⟩ := h
 have ht := t3.ht
 rw [List.map_map] at pm
 obtain ⟨T', h2, g2, u2⟩ := kids_loop ok hG (d := d) (n0 := T.n) (A := T.n) (dr := dr) (ep := ep) (p := p) (Nat.le_refl _) hn rfl t3.sz (fun x m => hok _ (List.mem_map_of_mem m)) xs [] (hnew T (.list [])) (rm [k_dot0, 6713200] [(1735222900, .ref t), (1769300593, .str p)]) rfl (get_old t3.hd) (get_new _ _) (Nat.le_succ _) rfl
 have lx : (kidsL p (xs.map Nd.p)).length < 64 := Nat.lt_of_le_of_lt (kids_len _ _) (by rw [List.length_map]; exact Nat.lt_trans t3.sz (lb rfl))
 refine C_funQ ok (l := [(1735222900, _), (1769300593, _)]) (tF hG rfl) rfl fun Qz hQ => ?_
 apply X_consP
 apply S_expr
 apply E_lm ok
 exact rfl
 ·(with_reducible repeat' first | assumption | exact get_new _ _ | apply get_put | apply get_old | refine get_nf (by assumption) ?_ | apply get_kd | with_unfolding_all rfl)
 exact tM hG rfl
 exact rfl
 refine Es_loc rfl ?_
 apply Es_nil
 refine k_ca (he) ?_
 apply X_consP
 apply S_ret
 refine E_callB ok (tG hG rfl) (by first | exact .inl ⟨_, rfl⟩ | exact .inr ⟨_, rfl⟩) ?_
 apply Es_cons
 apply E_listc
 apply E_la ok
 exact rfl
 ·(with_reducible repeat' first | assumption | exact get_new _ _ | apply get_put | apply get_old | refine get_nf (by assumption) ?_ | apply get_kd | with_unfolding_all rfl)
 exact tA hG rfl
 exact rfl
 refine k_ik (ikD t3.hd (List.length_map _)) ?_
 refine k_co (h2) ?_
 apply Es_nil
 refine k_bc (B_sortS (Its_list g2 (by rw [List.length_map]; exact lx)) lx pm so) ?_
 apply hQ
 exact ⟨_, rfl, get_new _ _, (Upd.refl.new.trans u2).new⟩
end
noncomputable def upX (p : List Nat) (f : En → En) (xs : List Nd) : List Nd := xs.map fun x => if x.p = p then ⟨x.p, x.r, f x.e⟩ else x
noncomputable def upE (p : List Nat) (f : En → En) (es : Es) : Es := es.map fun x => if x.1 = p then (x.1, f x.2) else x
noncomputable def delX (p : List Nat) (xs : List Nd) : List Nd := xs.filter fun x => !decide (x.p = p)
noncomputable def delE (p : List Nat) (es : Es) : Es := es.filter fun x => !decide (x.1 = p)
noncomputable def bump (num : Bool) (e : En) : En := { e with kids := e.kids + 1, cnt := cond num (e.cnt + 1) e.cnt }
theorem upX_map {β : Type} {g : Nd → β} {p : List Nat} {f : En → En} (h : ∀ x, g ⟨x.p, x.r, f x.e⟩ = g x) (xs : List Nd) : (upX p f xs).map g = xs.map g := by
 unfold upX; rw [List.map_map]
 exact List.map_congr_left fun x _ => by
  show g (if x.p = p then _ else _) = _
  split
  ·exact h x
  ·rfl
theorem upX_pe {p : List Nat} {f : En → En} (xs : List Nd) : (upX p f xs).map Nd.pe = upE p f (xs.map Nd.pe) := by
 unfold upX upE; rw [List.map_map, List.map_map]
 exact List.map_congr_left fun x _ => by
  show Nd.pe (if x.p = p then _ else _) = if x.p = p then _ else _
  split <;> rfl
theorem delX_pe {p : List Nat} (xs : List Nd) : (delX p xs).map Nd.pe = delE p (xs.map Nd.pe) := by
 unfold delX delE; rw [List.filter_map]; rfl
theorem Nd.sameP {xs : List Nd} (nd : (xs.map Nd.p).Nodup) {x y : Nd} (hx : x ∈ xs) (hy : y ∈ xs) (e : x.p = y.p) : x = y := by
 induction xs with
 | nil => cases hx
 | cons z xs ih =>
  have nd := List.nodup_cons.mp nd
  cases hx with
  | head => cases hy with
   | head => rfl
   | tail _ m => exact absurd (e ▸ List.mem_map_of_mem m) nd.1
  | tail _ m => cases hy with
   | head => exact absurd (e ▸ List.mem_map_of_mem m) nd.1
   | tail _ m2 => exact ih nd.2 m m2
section
variable {T T' : Hp} {lo t dr ep : Nat} {xs : List Nd}
theorem Tree3.mod (t3 : Tree3 T lo t dr ep xs) {x : Nd} (m : x ∈ xs) (f : En → En) (g : T'.get x.r = some (f x.e).ob) (o : ∀ a, a ≠ x.r → T'.get a = T.get a) : Tree3 T' lo t dr ep (upX x.p f xs) := by
 have gx := t3.he x m
 refine ⟨?_, ?_, fun y my => ?_, t3.lt, t3.ld, fun y my => ?_, ?_, ?_, ?_⟩
 ·rw [o _ (ne_kd gx t3.ht rfl)]; exact t3.ht
 ·rw [upX_map (fun _ => rfl), o _ (ne_kd gx t3.hd rfl)]; exact t3.hd
 ·obtain ⟨z, mz, rfl⟩ := List.mem_map.mp my
  by_cases e : z.p = x.p
  ·cases Nd.sameP t3.np mz m e
   rw [if_pos rfl]; exact g
  ·rw [if_neg e, o _ fun q => e (congrArg Nd.p (Nd.sameR t3.nr mz m q))]
   exact t3.he z mz
 ·obtain ⟨z, mz, rfl⟩ := List.mem_map.mp my
  have := t3.le z mz
  split
  ·exact this
  ·exact this
 ·rw [upX_map (fun _ => rfl)]; exact t3.nr
 ·rw [upX_map (fun _ => rfl)]; exact t3.np
 ·unfold upX; rw [List.length_map]; exact t3.sz
theorem Tree3.add (t3 : Tree3 T lo t dr ep xs) {p : List Nat} {r : Nat} {e : En} (np : p ∉ xs.map Nd.p) (g : T.get r = some e.ob) (fr : ∀ x ∈ xs, x.r ≠ r) (lr : lo ≤ r) (sz : xs.length < 59) : Tree3 (hput T dr (.dict (dpt (.str p) (.ref r) (xs.map Nd.dc)) (epS (.str p) (xs.map Nd.dc) ep))) lo t dr (ep + 1) (xs ++ [⟨p, r, e⟩]) := by
 refine ⟨get_kd t3.hd t3.ht rfl, ?_, fun y m => ?_, t3.lt, t3.ld, fun y m => ?_, ?_, ?_, ?_⟩
 ·rw [← dpt_new e np, ← ep_new np]; exact get_put t3.hd
 ·rcases List.mem_append.mp m with m | m
  ·exact get_kd t3.hd (t3.he y m) rfl
  ·cases List.mem_singleton.mp m; exact get_kd t3.hd g rfl
 ·rcases List.mem_append.mp m with m | m
  ·exact t3.le y m
  ·cases List.mem_singleton.mp m; exact lr
 ·rw [List.map_append, List.nodup_append]
  refine ⟨t3.nr, nd1, fun a ha b hb => ?_⟩
  obtain ⟨y, m, rfl⟩ := List.mem_map.mp ha
  cases List.mem_singleton.mp hb
  exact fr y m
 ·rw [List.map_append, List.nodup_append]
  refine ⟨t3.np, nd1, fun a ha b hb => ?_⟩
  cases List.mem_singleton.mp hb
  exact fun q => np ((show a = p from q) ▸ ha)
 ·rw [List.length_append]; exact Nat.succ_lt_succ sz
theorem ddl_del {p : List Nat} {xs : List Nd} (nd : (xs.map Nd.p).Nodup) : ddl (.str p) (xs.map Nd.dc) = (delX p xs).map Nd.dc := by
 induction xs with
 | nil => rfl
 | cons x xs ih =>
  have nd := List.nodup_cons.mp nd
  show (if decide (x.p = p) = true then _ else _) = _
  unfold delX
  by_cases h : x.p = p
  ·rw [if_pos (decide_eq_true h), List.filter_cons_of_neg (by rw [decide_eq_true h]; exact Bool.false_ne_true)]
   rw [List.filter_eq_self.mpr fun y m => ?_]
   have n : ¬ y.p = p := fun e => nd.1 (by rw [h, ← e]; exact List.mem_map_of_mem m)
   rw [decide_eq_false n]; rfl
  ·rw [if_neg fun e => h (of_decide_eq_true e), List.filter_cons_of_pos (by rw [decide_eq_false h]; rfl), ih nd.2]; rfl
theorem Tree3.del (t3 : Tree3 T lo t dr ep xs) (p : List Nat) : Tree3 (hput T dr (.dict (ddl (.str p) (xs.map Nd.dc)) (ep + 1))) lo t dr (ep + 1) (delX p xs) := by
 have sb : (delX p xs).Sublist xs := List.filter_sublist
 refine ⟨get_kd t3.hd t3.ht rfl, ?_, fun y m => get_kd t3.hd (t3.he y (sb.subset m)) rfl, t3.lt, t3.ld, fun y m => t3.le y (sb.subset m), (sb.map _).nodup t3.nr, (sb.map _).nodup t3.np, Nat.lt_of_le_of_lt sb.length_le t3.sz⟩
 rw [← ddl_del t3.np]; exact get_put t3.hd
end
noncomputable def KT (lo : Nat) : Nat → AO → Prop := fun r a => r < lo ∨ (Nat.beq (kd a) 0 = false ∧ Nat.beq (kd a) (178 + 6) = false)
theorem KT.noE {lo r : Nat} {e : En} (h : lo ≤ r) : ¬ KT lo r e.ob := fun k => k.elim (fun q => Nat.not_lt_of_le h q) fun q => Bool.noConfusion q.2
theorem KT.noD {lo r ep : Nat} {es : List (AV × AV)} (h : lo ≤ r) : ¬ KT lo r (.dict es ep) := fun k => k.elim (fun q => Nat.not_lt_of_le h q) fun q => Bool.noConfusion q.1
inductive Ch where
 | create (p : List Nat) (dt ow le ri : AV) (num : Bool)
 | delete (p : List Nat)
noncomputable def ChAt (T : Hp) (r : Nat) (ch : Ch) : Prop := match ch with
 | .create p dt ow le ri num => ∃ g, T.get r = some (.tuple [.str [99, 114, 101, 97, 116, 101], .str p, .ref g]) ∧ T.get g = some (.tuple [dt, ow, le, ri, .bool num])
 | .delete p => T.get r = some (.tuple [.str [100, 101, 108, 101, 116, 101], .str p])
noncomputable def appE (rev : Int) (es : Es) (ch : Ch) : Es := match ch with
 | .create p dt ow le ri num => upE (parL p) (bump num) es ++ [(p, ⟨dt, 0, 0, ow, le, ri, 0, rev, rev⟩)]
 | .delete p => upE (parL p) (bump false) (delE p es)
noncomputable def okC (es : Es) (ch : Ch) : Prop := match ch with
 | .create p dt ow le ri num => OkP p ∧ p ≠ [47] ∧ p ∉ es.map (·.1) ∧ es.length < 59 ∧ ∃ e, (parL p, e) ∈ es ∧ e.own = .none ∧ e.lea = .none
 | .delete p => OkP p ∧ p ≠ [47] ∧ (∃ e, (p, e) ∈ es) ∧ kidsL p (es.map (·.1)) = [] ∧ (∀ q ∈ es, OkP q.1) ∧ parL p ≠ p ∧ ∃ e, (parL p, e) ∈ es
section
variable {c : Cx} (ok : Ok c) (hG : c.G = G) {d lo t dr ep : Nat} {T : Hp} {xs : List Nd} {es : Es}
include ok hG
theorem create3 {p : List Nat} {dt ow le ri : AV} {num : Bool} {rev : Int} {g : Nat} (tr : TreeAt T lo t es) (hg : T.get g = some (.tuple [dt, ow, le, ri, .bool num])) (h : okC es (.create p dt ow le ri num)) (ln : lo ≤ T.n) (l1 : 1 ≤ lo) : CaP c T 244 [.ref t, .int rev, .str p, .ref g] (d + 4) fun u T' => u = .none ∧ TreeAt T' lo t (appE rev es (.create p dt ow le ri num)) ∧ Upd T.n (KT lo) T T' := by
 obtain ⟨hp, ne, np, sz, e, me, ho, hl⟩ := h
 have hh := has_no ok hG (d := d + 2) tr np
 obtain ⟨_, T1, h1, rfl, u1⟩ := parent_ok ok hG (d := d + 1) (T := T) hp ne
 obtain ⟨dr, ep, xs, t3, rfl⟩ := tr
 obtain ⟨x, mx, q⟩ := List.mem_map.mp me
 obtain ⟨xp, xr, xe⟩ := x
 cases q
 have ta := t3.all u1
 have h2 := entry3 ok hG (d := d + 2) ta mx
 have ht := t3.ht
 have ht1 := ta.ht
 have hd1 := ta.hd
 have ge := ta.he _ mx
 have lx := t3.le _ mx
 have lx1 : 1 ≤ xr := Nat.le_trans l1 lx
 have ld1 : 1 ≤ dr := Nat.le_trans l1 t3.ld
 have hg1 := u1.get trivial hg
 rw [List.map_map] at np
 rw [List.length_map] at sz
 have ux : Upd T.n (KT lo) T T1 := u1.a
 have fin : ∀ {T2 T3 : Hp}, T2.get xr = some (bump num xe).ob → (∀ a, a ≠ xr → T2.get a = T1.get a) → T2.n = T1.n → T3.get T2.n = some (En.ob ⟨dt, 0, 0, ow, le, ri, 0, rev, rev⟩) → Upd T2.n All T2 T3 → Upd T.n (KT lo) T T2 → T3.get dr = some (.dict (xs.map Nd.dc) ep) ∧ TreeAt (hput T3 dr (.dict (dpt (.str p) (.ref T2.n) (xs.map Nd.dc)) (epS (.str p) (xs.map Nd.dc) ep))) lo t (appE rev (xs.map Nd.pe) (.create p dt ow le ri num)) ∧ Upd T.n (KT lo) T (hput T3 dr (.dict (dpt (.str p) (.ref T2.n) (xs.map Nd.dc)) (epS (.str p) (xs.map Nd.dc) ep))) := by
  intro T2 T3 g2 o2 n2 g3 u3 ux2
  have tb := ta.mod mx (bump num) g2 o2
  have tc := tb.all u3
  have td := tc.add (p := p) (by rw [upX_map (fun _ => rfl)]; exact np) g3 (fun y m => Nat.ne_of_lt (lt_of_get (tb.he y m))) (by rw [n2]; exact Nat.le_trans ln u1.1) (by unfold upX; rw [List.length_map]; exact sz)
  have hd := tc.hd
  rw [upX_map (fun _ => rfl)] at td hd
  refine ⟨hd, ⟨dr, _, _, td, ?_⟩, ?_⟩
  ·rw [List.map_append, upX_pe]; rfl
  ·exact (ux2.then u3.a (by rw [n2]; exact u1.1)).set (fun _ => KT.noD t3.ld) t3.hd
 refine C_funQ ok (l := [(1735222900, _), (8030035183836554867, _), (1769300593, _), (478460471912, _)]) (tF hG rfl) rfl fun Qz hQ => ?_
 cases num with
 | false =>
  obtain ⟨_, T3, h3, rfl, g3, u3, n3⟩ := entry_init ok hG (d := d + 1) (T := hput T1 xr (En.ob (bump false xe))) (dt := dt) (ow := ow) (le := le) (ri := ri) (ma := rev) (Nat.le_trans (Nat.le_trans l1 ln) u1.1)
  obtain ⟨hd3, tf, uf⟩ := fin (get_put ge) (fun a ne => get_off T1 ne) rfl g3 u3 (ux.set (fun _ => KT.noE lx) (t3.he _ mx))
  have ht3 : T3.get t = some (trOb dr) := u3.get trivial (get_kd ge ht1 rfl)
  apply X_consP
  apply S_asgT
  refine E_loc rfl ?_
  refine k_tu (by first | exact .inl (by (with_reducible repeat' first | assumption | exact get_new _ _ | apply get_put | apply get_old | refine get_nf (by assumption) ?_ | apply get_kd | with_unfolding_all rfl)) | exact .inr (by (with_reducible repeat' first | assumption | exact get_new _ _ | apply get_put | apply get_old | refine get_nf (by assumption) ?_ | apply get_kd | with_unfolding_all rfl))) rfl ?_
  apply X_consP
  apply S_if
  refine T_plainP rfl ?_
  apply E_lm ok
  exact rfl
  ·(with_reducible repeat' first | assumption | exact get_new _ _ | apply get_put | apply get_old | refine get_nf (by assumption) ?_ | apply get_kd | with_unfolding_all rfl)
  exact tM hG rfl
  exact rfl
  refine Es_loc rfl ?_
  apply Es_nil
  refine k_ca (hh) ?_
  apply k_bl
  apply X_nilP
  apply X_consP
  apply S_asg
  apply E_lm ok
  exact rfl
  ·(with_reducible repeat' first | assumption | exact get_new _ _ | apply get_put | apply get_old | refine get_nf (by assumption) ?_ | apply get_kd | with_unfolding_all rfl)
  exact tM hG rfl
  exact rfl
  apply Es_cons
  refine E_callF ok (tG hG rfl) (tF hG rfl) ?_
  refine Es_loc rfl ?_
  apply Es_nil
  refine k_ca (h1) ?_
  apply Es_nil
  refine k_ca (h2) ?_
  apply X_consP
  apply S_if
  apply T_orP
  apply Ts_goP
  apply T_cmpP
  apply E_la ok
  exact rfl
  ·(with_reducible repeat' first | assumption | exact get_new _ _ | apply get_put | apply get_old | refine get_nf (by assumption) ?_ | apply get_kd | with_unfolding_all rfl)
  exact tA hG rfl
  exact rfl
  apply E_none
  refine k_cm false (by rw [ho]; exact C_isnt0) ?_
  apply k_ye
  apply Ts_goP
  apply T_cmpP
  apply E_la ok
  exact rfl
  ·(with_reducible repeat' first | assumption | exact get_new _ _ | apply get_put | apply get_old | refine get_nf (by assumption) ?_ | apply get_kd | with_unfolding_all rfl)
  exact tA hG rfl
  exact rfl
  apply E_none
  refine k_cm false (by rw [hl]; exact C_isnt0) ?_
  apply k_ye
  apply Ts_nilP
  apply X_nilP
  apply X_consP
  apply S_asgL ok
  apply E_bin
  apply E_la ok
  exact rfl
  ·(with_reducible repeat' first | assumption | exact get_new _ _ | apply get_put | apply get_old | refine get_nf (by assumption) ?_ | apply get_kd | with_unfolding_all rfl)
  exact tA hG rfl
  exact rfl
  apply E_int
  refine k_bi (B_addI) ?_
  apply k_al
  exact rfl
  ·(with_reducible repeat' first | assumption | exact get_new _ _ | apply get_put | apply get_old | refine get_nf (by assumption) ?_ | apply get_kd | with_unfolding_all rfl)
  exact tA hG rfl
  exact lb rfl
  first | assumption | exact Nat.le_add_left 1 _ | exact lb rfl
  apply X_consP
  apply S_if
  refine T_plainP rfl ?_
  refine E_loc rfl ?_
  apply k_bl
  apply X_nilP
  apply X_consP
  apply S_asgS
  refine E_new ok (tG hG rfl) (tC hG rfl) rfl ?_
  refine Es_loc rfl ?_
  refine Es_loc rfl ?_
  refine Es_loc rfl ?_
  refine Es_loc rfl ?_
  refine Es_loc rfl ?_
  apply Es_nil
  refine k_ca (h3) ?_
  apply k_no
  apply E_la ok
  exact rfl
  exact ht3
  exact tA hG rfl
  exact rfl
  refine E_loc rfl ?_
  apply k_dp
  exact hd3
  exact kOk_dc
  rw [List.length_map]; exact lt4 (Nat.le_of_lt sz) rfl
  first | assumption | exact Nat.le_add_left 1 _ | exact lb rfl
  apply X_nilP
  apply hQ
  exact ⟨rfl, tf, uf⟩
 | true =>
  obtain ⟨_, T3, h3, rfl, g3, u3, n3⟩ := entry_init ok hG (d := d + 1) (T := hput (hput T1 xr (En.ob { xe with kids := xe.kids + 1 })) xr (En.ob (bump true xe))) (dt := dt) (ow := ow) (le := le) (ri := ri) (ma := rev) (Nat.le_trans (Nat.le_trans l1 ln) u1.1)
  obtain ⟨hd3, tf, uf⟩ := fin (get_put (get_put ge)) (fun a ne => (get_off _ ne).trans (get_off _ ne)) rfl g3 u3 ((ux.set (fun _ => KT.noE lx) (t3.he _ mx)).set (fun _ => KT.noE lx) (t3.he _ mx))
  have ht3 : T3.get t = some (trOb dr) := u3.get trivial (get_kd (get_put ge) (get_kd ge ht1 rfl) rfl)
  apply X_consP
  apply S_asgT
  refine E_loc rfl ?_
  refine k_tu (by first | exact .inl (by (with_reducible repeat' first | assumption | exact get_new _ _ | apply get_put | apply get_old | refine get_nf (by assumption) ?_ | apply get_kd | with_unfolding_all rfl)) | exact .inr (by (with_reducible repeat' first | assumption | exact get_new _ _ | apply get_put | apply get_old | refine get_nf (by assumption) ?_ | apply get_kd | with_unfolding_all rfl))) rfl ?_
  apply X_consP
  apply S_if
  refine T_plainP rfl ?_
  apply E_lm ok
  exact rfl
  ·(with_reducible repeat' first | assumption | exact get_new _ _ | apply get_put | apply get_old | refine get_nf (by assumption) ?_ | apply get_kd | with_unfolding_all rfl)
  exact tM hG rfl
  exact rfl
  refine Es_loc rfl ?_
  apply Es_nil
  refine k_ca (hh) ?_
  apply k_bl
  apply X_nilP
  apply X_consP
  apply S_asg
  apply E_lm ok
  exact rfl
  ·(with_reducible repeat' first | assumption | exact get_new _ _ | apply get_put | apply get_old | refine get_nf (by assumption) ?_ | apply get_kd | with_unfolding_all rfl)
  exact tM hG rfl
  exact rfl
  apply Es_cons
  refine E_callF ok (tG hG rfl) (tF hG rfl) ?_
  refine Es_loc rfl ?_
  apply Es_nil
  refine k_ca (h1) ?_
  apply Es_nil
  refine k_ca (h2) ?_
  apply X_consP
  apply S_if
  apply T_orP
  apply Ts_goP
  apply T_cmpP
  apply E_la ok
  exact rfl
  ·(with_reducible repeat' first | assumption | exact get_new _ _ | apply get_put | apply get_old | refine get_nf (by assumption) ?_ | apply get_kd | with_unfolding_all rfl)
  exact tA hG rfl
  exact rfl
  apply E_none
  refine k_cm false (by rw [ho]; exact C_isnt0) ?_
  apply k_ye
  apply Ts_goP
  apply T_cmpP
  apply E_la ok
  exact rfl
  ·(with_reducible repeat' first | assumption | exact get_new _ _ | apply get_put | apply get_old | refine get_nf (by assumption) ?_ | apply get_kd | with_unfolding_all rfl)
  exact tA hG rfl
  exact rfl
  apply E_none
  refine k_cm false (by rw [hl]; exact C_isnt0) ?_
  apply k_ye
  apply Ts_nilP
  apply X_nilP
  apply X_consP
  apply S_asgL ok
  apply E_bin
  apply E_la ok
  exact rfl
  ·(with_reducible repeat' first | assumption | exact get_new _ _ | apply get_put | apply get_old | refine get_nf (by assumption) ?_ | apply get_kd | with_unfolding_all rfl)
  exact tA hG rfl
  exact rfl
  apply E_int
  refine k_bi (B_addI) ?_
  apply k_al
  exact rfl
  ·(with_reducible repeat' first | assumption | exact get_new _ _ | apply get_put | apply get_old | refine get_nf (by assumption) ?_ | apply get_kd | with_unfolding_all rfl)
  exact tA hG rfl
  exact lb rfl
  first | assumption | exact Nat.le_add_left 1 _ | exact lb rfl
  apply X_consP
  apply S_if
  refine T_plainP rfl ?_
  refine E_loc rfl ?_
  apply k_bl
  apply X_consP
  apply S_asgL ok
  apply E_bin
  apply E_la ok
  exact rfl
  ·(with_reducible repeat' first | assumption | exact get_new _ _ | apply get_put | apply get_old | refine get_nf (by assumption) ?_ | apply get_kd | with_unfolding_all rfl)
  exact tA hG rfl
  exact rfl
  apply E_int
  refine k_bi (B_addI) ?_
  apply k_al
  exact rfl
  ·(with_reducible repeat' first | assumption | exact get_new _ _ | apply get_put | apply get_old | refine get_nf (by assumption) ?_ | apply get_kd | with_unfolding_all rfl)
  exact tA hG rfl
  exact lb rfl
  first | assumption | exact Nat.le_add_left 1 _ | exact lb rfl
  apply X_nilP
  apply X_consP
  apply S_asgS
  refine E_new ok (tG hG rfl) (tC hG rfl) rfl ?_
  refine Es_loc rfl ?_
  refine Es_loc rfl ?_
  refine Es_loc rfl ?_
  refine Es_loc rfl ?_
  refine Es_loc rfl ?_
  apply Es_nil
  refine k_ca (h3) ?_
  apply k_no
  apply E_la ok
  exact rfl
  exact ht3
  exact tA hG rfl
  exact rfl
  refine E_loc rfl ?_
  apply k_dp
  exact hd3
  exact kOk_dc
  rw [List.length_map]; exact lt4 (Nat.le_of_lt sz) rfl
  first | assumption | exact Nat.le_add_left 1 _ | exact lb rfl
  apply X_nilP
  apply hQ
  exact ⟨rfl, tf, uf⟩
end
theorem del_mem {p q : List Nat} {e : En} {es : Es} (m : (q, e) ∈ es) (ne : q ≠ p) : (q, e) ∈ delE p es := List.mem_filter.mpr ⟨m, by rw [decide_eq_false ne]; rfl⟩
section
variable {c : Cx} (ok : Ok c) (hG : c.G = G) {d lo t dr ep : Nat} {T : Hp} {xs : List Nd} {es : Es}
include ok hG
theorem delete3 {p : List Nat} {rev : Int} (tr : TreeAt T lo t es) (h : okC es (.delete p)) (ln : lo ≤ T.n) (l1 : 1 ≤ lo) : CaP c T 251 [.ref t, .str p] (d + 4) fun u T' => u = .none ∧ TreeAt T' lo t (appE rev es (.delete p)) ∧ Upd T.n (KT lo) T T' := by
 obtain ⟨hp, ne, ⟨e, me⟩, hk, hok, pn, e0, m0⟩ := h
 obtain ⟨r0, he, ge⟩ := entry_yes ok hG (d := d + 2) tr me
 obtain ⟨_, T1, h1, r1, rfl, g1, u1⟩ := children_ok ok hG (d := d) (m := []) tr me (Nat.le_trans l1 ln) hok (by rw [hk]) List.Pairwise.nil
 obtain ⟨dr, ep, xs, t3, rfl⟩ := tr
 have ta := t3.all u1
 have hd1 := ta.hd
 have ht1 := ta.ht
 have ht := t3.ht
 have tb := ta.del p
 have ld1 : 1 ≤ dr := Nat.le_trans l1 t3.ld
 obtain ⟨x, mx, q⟩ := List.mem_map.mp me
 cases q
 have dx := dlk_yes mx t3.np
 obtain ⟨_, T2, h2, rfl, u2⟩ := parent_ok ok hG (d := d + 1) (T := hput T1 dr (.dict (ddl (.str x.p) (xs.map Nd.dc)) (ep + 1))) hp ne
 have tc := tb.all u2
 have m1 : (parL x.p, e0) ∈ (delX x.p xs).map Nd.pe := by rw [delX_pe]; exact del_mem m0 pn
 obtain ⟨y, my, qy⟩ := List.mem_map.mp m1
 obtain ⟨yp, yr, ye⟩ := y
 cases qy
 have h3 := entry3 ok hG (d := d + 2) tc my
 have gy := tc.he _ my
 have ly := tc.le _ my
 have ly1 : 1 ≤ yr := Nat.le_trans l1 ly
 have ht2 := tc.ht
 have td := tc.mod my (bump false) (T' := hput T2 yr (En.ob (bump false ye))) (get_put gy) (fun a ne => get_off T2 ne)
 refine C_funQ ok (l := [(1735222900, _), (1769300593, _)]) (tF hG rfl) rfl fun Qz hQ => ?_
 apply X_consP
 apply S_expr
 apply E_lm ok
 exact rfl
 ·(with_reducible repeat' first | assumption | exact get_new _ _ | apply get_put | apply get_old | refine get_nf (by assumption) ?_ | apply get_kd | with_unfolding_all rfl)
 exact tM hG rfl
 exact rfl
 refine Es_loc rfl ?_
 apply Es_nil
 refine k_ca (he) ?_
 apply X_consP
 apply S_if
 apply T_cmpP
 refine E_loc rfl ?_
 apply E_str
 refine k_cm false (C_eq (pq_no ne)) ?_
 apply X_nilP
 apply X_consP
 apply S_if
 apply T_cmpP
 refine E_callB ok (tG hG rfl) (by first | exact .inl ⟨_, rfl⟩ | exact .inr ⟨_, rfl⟩) ?_
 apply Es_cons
 apply E_lm ok
 exact rfl
 ·(with_reducible repeat' first | assumption | exact get_new _ _ | apply get_put | apply get_old | refine get_nf (by assumption) ?_ | apply get_kd | with_unfolding_all rfl)
 exact tM hG rfl
 exact rfl
 refine Es_loc rfl ?_
 apply Es_nil
 refine k_ca (h1) ?_
 apply Es_nil
 refine k_bc (by first | exact B_lenL (by (with_reducible repeat' first | assumption | exact get_new _ _ | apply get_put | apply get_old | refine get_nf (by assumption) ?_ | apply get_kd | with_unfolding_all rfl)) (lb rfl) | exact B_lenT (by (with_reducible repeat' first | assumption | exact get_new _ _ | apply get_put | apply get_old | refine get_nf (by assumption) ?_ | apply get_kd | with_unfolding_all rfl)) (lb rfl) | exact B_lenS (lb rfl)) ?_
 apply E_int
 refine k_cm false (C_gt) ?_
 apply X_nilP
 apply X_consP
 apply S_delS
 apply E_la ok
 exact rfl
 ·(with_reducible repeat' first | assumption | exact get_new _ _ | apply get_put | apply get_old | refine get_nf (by assumption) ?_ | apply get_kd | with_unfolding_all rfl)
 exact tA hG rfl
 exact rfl
 refine E_loc rfl ?_
 apply k_dd
 ·(with_reducible repeat' first | assumption | exact get_new _ _ | apply get_put | apply get_old | refine get_nf (by assumption) ?_ | apply get_kd | with_unfolding_all rfl)
 exact kOk_dc
 rw [List.length_map]; exact lt4 (Nat.le_of_lt t3.sz) rfl
 exact dx
 first | assumption | exact Nat.le_add_left 1 _ | exact lb rfl
 apply X_consP
 apply S_asg
 apply E_lm ok
 exact rfl
 ·(with_reducible repeat' first | assumption | exact get_new _ _ | apply get_put | apply get_old | refine get_nf (by assumption) ?_ | apply get_kd | with_unfolding_all rfl)
 exact tM hG rfl
 exact rfl
 apply Es_cons
 refine E_callF ok (tG hG rfl) (tF hG rfl) ?_
 refine Es_loc rfl ?_
 apply Es_nil
 refine k_ca (h2) ?_
 apply Es_nil
 refine k_ca (h3) ?_
 apply X_consP
 apply S_asgL ok
 apply E_bin
 apply E_la ok
 exact rfl
 ·(with_reducible repeat' first | assumption | exact get_new _ _ | apply get_put | apply get_old | refine get_nf (by assumption) ?_ | apply get_kd | with_unfolding_all rfl)
 exact tA hG rfl
 exact rfl
 apply E_int
 refine k_bi (B_addI) ?_
 apply k_al
 exact rfl
 ·(with_reducible repeat' first | assumption | exact get_new _ _ | apply get_put | apply get_old | refine get_nf (by assumption) ?_ | apply get_kd | with_unfolding_all rfl)
 exact tA hG rfl
 exact lb rfl
 first | assumption | exact Nat.le_add_left 1 _ | exact lb rfl
 apply X_nilP
 apply hQ
 have mz : (⟨parL x.p, yr, ye⟩ : Nd) ∈ xs := (List.filter_sublist (l := xs)).subset my
 refine ⟨rfl, ⟨dr, _, _, td, ?_⟩, ?_⟩
 ·rw [upX_pe, delX_pe]; rfl
 ·exact ((u1.a.set (fun _ => KT.noD t3.ld) t3.hd).then u2.a u1.1).set (fun _ => KT.noE ly) (t3.he _ mz)
theorem apply_ok {ch : Ch} {rev : Int} {cr : Nat} (tr : TreeAt T lo t es) (hc : ChAt T cr ch) (h : okC es ch) (ln : lo ≤ T.n) (l1 : 1 ≤ lo) : CaP c T 237 [.ref t, .int rev, .ref cr] (d + 5) fun u T' => u = .none ∧ TreeAt T' lo t (appE rev es ch) ∧ Upd T.n (KT lo) T T' := by
 obtain ⟨dr, ep, xs, t3, hx⟩ := id tr
 have ht := t3.ht
 cases ch with
 | create p dt ow le ri num =>
  obtain ⟨g, hc, hg⟩ := hc
  obtain ⟨_, T1, h1, rfl, t1, u1⟩ := create3 ok hG (d := d) (rev := rev) (T := hnew T (.tuple [.str [99, 114, 101, 97, 116, 101], .str p])) (tr.all Upd.refl.new) (get_old hg) h (Nat.le_succ_of_le ln) l1
  refine C_funQ ok (l := [(1735222900, _), (8030035183836554867, _), (112598731352420, _)]) (tF hG rfl) rfl fun Qz hQ => ?_
  apply X_consP
  apply S_asgW
  apply E_tuple
  apply Es_cons
  apply E_sub
  refine E_loc rfl ?_
  apply E_int
  refine k_it (by first | exact I_tuple (j := 0) (by (with_reducible repeat' first | assumption | exact get_new _ _ | apply get_put | apply get_old | refine get_nf (by assumption) ?_ | apply get_kd | with_unfolding_all rfl)) rfl (lb rfl) | exact I_list (j := 0) (by (with_reducible repeat' first | assumption | exact get_new _ _ | apply get_put | apply get_old | refine get_nf (by assumption) ?_ | apply get_kd | with_unfolding_all rfl)) rfl (lb rfl)) ?_
  apply Es_cons
  apply E_sub
  refine E_loc rfl ?_
  apply E_int
  refine k_it (by first | exact I_tuple (j := 1) (by (with_reducible repeat' first | assumption | exact get_new _ _ | apply get_put | apply get_old | refine get_nf (by assumption) ?_ | apply get_kd | with_unfolding_all rfl)) rfl (lb rfl) | exact I_list (j := 1) (by (with_reducible repeat' first | assumption | exact get_new _ _ | apply get_put | apply get_old | refine get_nf (by assumption) ?_ | apply get_kd | with_unfolding_all rfl)) rfl (lb rfl)) ?_
  apply Es_nil
  refine k_sh (lb rfl) ?_
  apply k_tw
  ·(with_reducible repeat' first | assumption | exact get_new _ _ | apply get_put | apply get_old | refine get_nf (by assumption) ?_ | apply get_kd | with_unfolding_all rfl)
  exact rfl
  apply X_consP
  apply S_if
  apply T_cmpP
  refine E_loc rfl ?_
  apply E_str
  refine k_cm true (C_eq rfl) ?_
  apply X_consP
  apply S_expr
  apply E_lm ok
  exact rfl
  ·(with_reducible repeat' first | assumption | exact get_new _ _ | apply get_put | apply get_old | refine get_nf (by assumption) ?_ | apply get_kd | with_unfolding_all rfl)
  exact tM hG rfl
  exact rfl
  refine Es_loc rfl ?_
  refine Es_loc rfl ?_
  apply Es_cons
  apply E_sub
  refine E_loc rfl ?_
  apply E_int
  refine k_it (by first | exact I_tuple (j := 2) (by (with_reducible repeat' first | assumption | exact get_new _ _ | apply get_put | apply get_old | refine get_nf (by assumption) ?_ | apply get_kd | with_unfolding_all rfl)) rfl (lb rfl) | exact I_list (j := 2) (by (with_reducible repeat' first | assumption | exact get_new _ _ | apply get_put | apply get_old | refine get_nf (by assumption) ?_ | apply get_kd | with_unfolding_all rfl)) rfl (lb rfl)) ?_
  apply Es_nil
  refine k_ca (h1) ?_
  apply X_nilP
  apply X_nilP
  apply hQ
  exact ⟨rfl, t1, Upd.refl.new.then u1 (Nat.le_succ _)⟩
 | delete p =>
  have hc : T.get cr = some (.tuple [.str [100, 101, 108, 101, 116, 101], .str p]) := hc
  obtain ⟨_, T1, h1, rfl, t1, u1⟩ := delete3 ok hG (d := d) (rev := rev) (T := hnew T (.tuple [.str [100, 101, 108, 101, 116, 101], .str p])) (tr.all Upd.refl.new) h (Nat.le_succ_of_le ln) l1
  refine C_funQ ok (l := [(1735222900, _), (8030035183836554867, _), (112598731352420, _)]) (tF hG rfl) rfl fun Qz hQ => ?_
  apply X_consP
  apply S_asgW
  apply E_tuple
  apply Es_cons
  apply E_sub
  refine E_loc rfl ?_
  apply E_int
  refine k_it (by first | exact I_tuple (j := 0) (by (with_reducible repeat' first | assumption | exact get_new _ _ | apply get_put | apply get_old | refine get_nf (by assumption) ?_ | apply get_kd | with_unfolding_all rfl)) rfl (lb rfl) | exact I_list (j := 0) (by (with_reducible repeat' first | assumption | exact get_new _ _ | apply get_put | apply get_old | refine get_nf (by assumption) ?_ | apply get_kd | with_unfolding_all rfl)) rfl (lb rfl)) ?_
  apply Es_cons
  apply E_sub
  refine E_loc rfl ?_
  apply E_int
  refine k_it (by first | exact I_tuple (j := 1) (by (with_reducible repeat' first | assumption | exact get_new _ _ | apply get_put | apply get_old | refine get_nf (by assumption) ?_ | apply get_kd | with_unfolding_all rfl)) rfl (lb rfl) | exact I_list (j := 1) (by (with_reducible repeat' first | assumption | exact get_new _ _ | apply get_put | apply get_old | refine get_nf (by assumption) ?_ | apply get_kd | with_unfolding_all rfl)) rfl (lb rfl)) ?_
  apply Es_nil
  refine k_sh (lb rfl) ?_
  apply k_tw
  ·(with_reducible repeat' first | assumption | exact get_new _ _ | apply get_put | apply get_old | refine get_nf (by assumption) ?_ | apply get_kd | with_unfolding_all rfl)
  exact rfl
  apply X_consP
  apply S_if
  apply T_cmpP
  refine E_loc rfl ?_
  apply E_str
  refine k_cm false (C_eq rfl) ?_
  apply X_consP
  apply S_if
  apply T_cmpP
  refine E_loc rfl ?_
  apply E_str
  refine k_cm false (C_eq rfl) ?_
  apply X_consP
  apply S_if
  apply T_cmpP
  refine E_loc rfl ?_
  apply E_str
  refine k_cm true (C_eq rfl) ?_
  apply X_consP
  apply S_expr
  apply E_lm ok
  exact rfl
  ·(with_reducible repeat' first | assumption | exact get_new _ _ | apply get_put | apply get_old | refine get_nf (by assumption) ?_ | apply get_kd | with_unfolding_all rfl)
  exact tM hG rfl
  exact rfl
  refine Es_loc rfl ?_
  apply Es_nil
  refine k_ca (h1) ?_
  apply X_nilP
  apply X_nilP
  apply X_nilP
  apply X_nilP
  apply hQ
  exact ⟨rfl, t1, Upd.refl.new.then u1 (Nat.le_succ _)⟩
end
structure SF where
 tree : Nat
 log : Nat
 tick : Int
 rev : Int
 ses : Nat
 lea : Nat
 wat : Nat
 cnt : Int
noncomputable abbrev SF.ob (f : SF) : AO := .inst 734 [(1717990261, .ref f.tree), (6844525, .ref f.log), (1902536300, .none), (1818520181, .int f.tick), (8030035183836554867, .int f.rev), (8390048233337153140, .ref f.ses), (127983388092013, .ref f.lea), (32763700141449848, .ref f.wat), (504381206628, .int f.cnt)]
structure Sn where
 num : Int
 r : Nat
 u : List Nat
 tmo : Int
noncomputable abbrev Sn.dc (x : Sn) : AV × AV := (.int x.num, .ref x.r)
noncomputable abbrev Sn.ob (x : Sn) (h : Int) : AO := .inst 388 [(126883592042095, .int x.num), (1936094326, .str x.u), (33062797402073717, .int x.tmo), (435727525481, .int h)]
theorem dlk_ses {x : Sn} {ss : List Sn} (m : x ∈ ss) (nd : (ss.map Sn.num).Nodup) : dlk (.int x.num) (ss.map Sn.dc) = some (.ref x.r) := by
 induction ss with
 | nil => cases m
 | cons y ss ih =>
  show (if decide (y.num = x.num) = true then _ else _) = _
  have nd := List.nodup_cons.mp nd
  cases m with
  | head => rw [if_pos (decide_eq_true rfl)]
  | tail _ m =>
   have n : y.num ≠ x.num := fun e => nd.1 (e ▸ List.mem_map_of_mem m)
   rw [if_neg fun e => n (of_decide_eq_true e)]
   exact ih m nd.2
theorem kOk_ses {n : Int} {ss : List Sn} : kOk (.int n) (ss.map Sn.dc) = true := by cases ss <;> rfl
noncomputable def KD (lo cl : Nat) : Nat → AO → Prop := fun r a => r ≠ cl ∧ KT lo r a
theorem KD.of {n lo cl : Nat} {T T' : Hp} (u : Upd n (KT lo) T T') : Upd n (KD lo cl) T T' := u.weak (Nat.le_refl _) fun _ _ p => p.2
section
variable {c : Cx} (ok : Ok c) (hG : c.G = G) {d lo t s : Nat} {T : Hp} {es : Es} {sf : SF}
include ok hG
theorem do_ok {ch : Ch} {cr cl : Nat} {ys : List AV} (hs : T.get s = some sf.ob) (tr : TreeAt T lo t es) (hc : ChAt T cr ch) (h : okC es ch) (hl : T.get cl = some (.list ys)) (sz : ys.length < 60) (ln : lo ≤ T.n) (l1 : 1 ≤ lo) (l2 : 1 ≤ cl) : CaP c T 688 [.ref s, .ref t, .ref cl, .ref cr] (d + 6) fun u T' => u = .none ∧ TreeAt T' lo t (appE (sf.rev + 1) es ch) ∧ T'.get cl = some (.list (ys ++ [.ref cr])) ∧ Upd T.n (KD lo cl) T T' := by
 obtain ⟨_, T1, h1, rfl, t1, u1⟩ := apply_ok ok hG (d := d) (rev := sf.rev + 1) tr hc h ln l1
 obtain ⟨dr, ep, xs, t3, hx⟩ := id tr
 have ht := t3.ht
 have hl1 : T1.get cl = some (.list ys) := u1.get (.inr ⟨rfl, rfl⟩) hl
 refine C_funQ ok (l := [(1735222900, _), (1717990261, _), (32763696029788516, _), (112598731352420, _)]) (tF hG rfl) rfl fun Qz hQ => ?_
 apply X_consP
 apply S_expr
 apply E_lm ok
 exact rfl
 ·(with_reducible repeat' first | assumption | exact get_new _ _ | apply get_put | apply get_old | refine get_nf (by assumption) ?_ | apply get_kd | with_unfolding_all rfl)
 exact tM hG rfl
 exact rfl
 apply Es_cons
 apply E_bin
 apply E_la ok
 exact rfl
 ·(with_reducible repeat' first | assumption | exact get_new _ _ | apply get_put | apply get_old | refine get_nf (by assumption) ?_ | apply get_kd | with_unfolding_all rfl)
 exact tA hG rfl
 exact rfl
 apply E_int
 refine k_bi (B_addI) ?_
 refine Es_loc rfl ?_
 apply Es_nil
 refine k_ca (h1) ?_
 apply X_consP
 apply S_expr
 apply E_methB
 refine E_loc rfl ?_
 refine k_bg (G_append hl1) ?_
 refine Es_loc rfl ?_
 apply Es_nil
 refine k_bm (M_append hl1 (Nat.lt_trans sz (lb rfl)) l2) ?_
 apply X_nilP
 apply hQ
 obtain ⟨dr, ep, xs, t3, hx⟩ := id t1
 refine ⟨rfl, ⟨dr, ep, xs, { t3 with ht := get_kd hl1 t3.ht rfl, hd := get_kd hl1 t3.hd rfl, he := fun x m => get_kd hl1 (t3.he x m) rfl }, hx⟩, get_put hl1, (KD.of u1).set (fun _ k => k.1 rfl) hl⟩
theorem session_ok {x : Sn} {ss : List Sn} {ep : Nat} {hh : Int} (hs : T.get s = some sf.ob) (hd : T.get sf.ses = some (.dict (ss.map Sn.dc) ep)) (m : x ∈ ss) (nd : (ss.map Sn.num).Nodup) (g : T.get x.r = some (x.ob hh)) (l1 : 1 ≤ x.r) : Ca c 501 [.ref s, .int x.num] (d + 1) T (.ref x.r) (hput T x.r (x.ob sf.tick)) := by
 have q := dlk_ses m nd
 have : CaP c T 501 [.ref s, .int x.num] (d + 1) fun u T' => u = .ref x.r ∧ T' = hput T x.r (x.ob sf.tick) := by
  refine C_funQ ok (l := [(1735222900, _), (126883592042095, _)]) (tF hG rfl) rfl fun Qz hQ => ?_
  apply X_consP
  apply S_if
  apply T_orP
  apply Ts_goP
  apply T_cmpP
  refine E_callB ok (tG hG rfl) (by first | exact .inl ⟨_, rfl⟩ | exact .inr ⟨_, rfl⟩) ?_
  refine Es_loc rfl ?_
  apply Es_nil
  refine k_bc (by first | exact B_typeS | exact B_typeI | exact B_typeT (by (with_reducible repeat' first | assumption | exact get_new _ _ | apply get_put | apply get_old | refine get_nf (by assumption) ?_ | apply get_kd | with_unfolding_all rfl))) ?_
  refine E_glb ok (tG hG rfl) ?_
  refine k_cm false (by first | exact C_isnt0 | exact C_isnt1 rfl | exact C_isntT) ?_
  apply k_ye
  apply Ts_goP
  apply T_cmpP
  refine E_loc rfl ?_
  apply E_la ok
  exact rfl
  ·(with_reducible repeat' first | assumption | exact get_new _ _ | apply get_put | apply get_old | refine get_nf (by assumption) ?_ | apply get_kd | with_unfolding_all rfl)
  exact tA hG rfl
  exact rfl
  refine k_cm false (cmt (C_ninD hd kOk_ses) (by rw [q]; rfl)) ?_
  apply k_ye
  apply Ts_nilP
  apply X_nilP
  apply X_consP
  apply S_asgA ok
  apply E_la ok
  exact rfl
  ·(with_reducible repeat' first | assumption | exact get_new _ _ | apply get_put | apply get_old | refine get_nf (by assumption) ?_ | apply get_kd | with_unfolding_all rfl)
  exact tA hG rfl
  exact rfl
  apply E_sub
  apply E_la ok
  exact rfl
  ·(with_reducible repeat' first | assumption | exact get_new _ _ | apply get_put | apply get_old | refine get_nf (by assumption) ?_ | apply get_kd | with_unfolding_all rfl)
  exact tA hG rfl
  exact rfl
  refine E_loc rfl ?_
  refine k_it (I_dict hd kOk_ses q) ?_
  apply k_as2
  ·(with_reducible repeat' first | assumption | exact get_new _ _ | apply get_put | apply get_old | refine get_nf (by assumption) ?_ | apply get_kd | with_unfolding_all rfl)
  exact tA hG rfl
  exact lb rfl
  first | assumption | exact Nat.le_add_left 1 _ | exact lb rfl
  apply X_consP
  apply S_ret
  apply E_sub
  apply E_la ok
  exact rfl
  ·(with_reducible repeat' first | assumption | exact get_new _ _ | apply get_put | apply get_old | refine get_nf (by assumption) ?_ | apply get_kd | with_unfolding_all rfl)
  exact tA hG rfl
  exact rfl
  refine E_loc rfl ?_
  refine k_it (I_dict (get_kd g hd rfl) kOk_ses q) ?_
  apply hQ
  exact ⟨rfl, rfl⟩
 obtain ⟨_, _, h, rfl, rfl⟩ := this
 exact h
end
theorem ChAt.upd {T T' : Hp} {P : Nat → AO → Prop} {r : Nat} {ch : Ch} (h : ChAt T r ch) (u : Upd T.n P T T') (hp : ∀ x vs, T.get x = some (.tuple vs) → P x (.tuple vs)) : ChAt T' r ch := by
 cases ch with
 | create p dt ow le ri num => obtain ⟨g, h1, h2⟩ := h; exact ⟨g, u.get (hp _ _ h1) h1, u.get (hp _ _ h2) h2⟩
 | delete p => exact u.get (hp _ _ h) h
noncomputable abbrev crC (q data : List Nat) (van num : Bool) (nb : Int) : Ch := .create q (.str data) (cond van (.int nb) .none) .none .none num
noncomputable def NumOf (es : Es) (num : Bool) (p q : List Nat) (k : Nat) : Prop := (num = false ∧ q = p) ∨ (num = true ∧ q = numL p k ∧ k < 100 ∧ p.length ≤ 200 ∧ OkP q ∧ ∃ e, (parL p, e) ∈ es ∧ e.cnt = (k : Int))
section
variable {c : Cx} (ok : Ok c) (hG : c.G = G) {d lo t s : Nat} {T : Hp} {es : Es} {sf : SF}
include ok hG
theorem screate {p u data q : List Nat} {num van : Bool} {k rr cl : Nat} {nb : Int} {ys : List AV} (hs : T.get s = some sf.ob) (tr : TreeAt T lo t es) (hr : T.get rr = some (.list [.str data, .bool van, .bool num, .none, .none])) (hp : OkP p) (ne : p ≠ [47]) (rc : Rch es (parL p)) (hu : u ≠ [42]) (hq : NumOf es num p q k) (hvn : van = num) (h : okC es (crC q data van num nb)) (hl : T.get cl = some (.list ys)) (sz : ys.length < 60) (ln : lo ≤ T.n) (l1 : 1 ≤ lo) (l2 : 1 ≤ cl) : CaP c T 681 [.ref s, .int nb, .str u, .ref t, .str p, .ref rr, .ref cl] (d + 8) fun v T' => v = .str q ∧ ∃ cr, TreeAt T' lo t (appE (sf.rev + 1) es (crC q data van num nb)) ∧ T'.get cl = some (.list (ys ++ [.ref cr])) ∧ ChAt T' cr (crC q data van num nb) ∧ Upd T.n (KD lo cl) T T' := by
 obtain ⟨_, T1, h1, rfl, u1⟩ := parent_ok ok hG (d := d + 5) (T := T) hp ne
 obtain ⟨_, T2, h2, rfl, u2⟩ := need_right_ok ok hG (d := d + 1) (x := 99) (tr.all u1) rc hu rfl
 have u12 : Upd T.n All T T2 := u1.then u2 u1.1
 have fin : ∀ {T3 : Hp}, Upd T.n All T T3 → ∃ T', Ca c 688 [.ref s, .ref t, .ref cl, .ref (hnew T3 (.tuple [.str data, cond van (.int nb) .none, .none, .none, .bool num])).n] (d + 7) (hnew (hnew T3 (.tuple [.str data, cond van (.int nb) .none, .none, .none, .bool num])) (.tuple [.str [99, 114, 101, 97, 116, 101], .str q, .ref T3.n])) .none T' ∧ ∃ cr, TreeAt T' lo t (appE (sf.rev + 1) es (crC q data van num nb)) ∧ T'.get cl = some (.list (ys ++ [.ref cr])) ∧ ChAt T' cr (crC q data van num nb) ∧ Upd T.n (KD lo cl) T T' := by
  intro T3 u3
  have ca : ChAt (hnew (hnew T3 (.tuple [.str data, cond van (.int nb) .none, .none, .none, .bool num])) (.tuple [.str [99, 114, 101, 97, 116, 101], .str q, .ref T3.n])) (hnew T3 (.tuple [.str data, cond van (.int nb) .none, .none, .none, .bool num])).n (crC q data van num nb) := ⟨T3.n, get_new _ _, get_old (get_new _ _)⟩
  have ux := (u3.new (o := .tuple [.str data, cond van (.int nb) .none, .none, .none, .bool num])).new (o := .tuple [.str [99, 114, 101, 97, 116, 101], .str q, .ref T3.n])
  obtain ⟨_, T', h5, rfl, t5, g5, u5⟩ := do_ok ok hG (d := d + 1) (ux.get trivial hs) (tr.all ux) ca h (ux.get trivial hl) sz (Nat.le_trans ln ux.1) l1 l2
  exact ⟨T', h5, _, t5, g5, ca.upd u5 fun x vs g => ⟨ne_kd (ux.get trivial hl) g rfl, .inr ⟨rfl, rfl⟩⟩, ux.a.then u5 ux.1⟩
 obtain ⟨dr, ep, xs, t3, hx⟩ := id tr
 have ht2 := (t3.all u12).ht
 have hs2 := u12.get trivial hs
 rcases hq with ⟨rfl, rfl⟩ | ⟨rfl, rfl, k1, k2, k3, e, me, ke⟩
 ·obtain ⟨T', h5, cr, r1, r2, r3, r4⟩ := fin u12
  cases hvn
  refine C_funQ ok (l := [(1735222900, _), (126883592042095, _), (1936094326, _), (1717990261, _), (1769300593, _), (1970562675, _), (32763696029788516, _)]) (tF hG rfl) rfl fun Qz hQ => ?_
  apply X_consP
  apply S_asgT
  refine E_loc rfl ?_
  refine k_tu (.inr hr) rfl ?_
  apply X_consP
  apply S_if
  apply T_cmpP
  refine E_callB ok (tG hG rfl) (by first | exact .inl ⟨_, rfl⟩ | exact .inr ⟨_, rfl⟩) ?_
  refine Es_loc rfl ?_
  apply Es_nil
  refine k_bc (by first | exact B_typeS | exact B_typeI | exact B_typeT (by (with_reducible repeat' first | assumption | exact get_new _ _ | apply get_put | apply get_old | refine get_nf (by assumption) ?_ | apply get_kd | with_unfolding_all rfl))) ?_
  refine E_glb ok (tG hG rfl) ?_
  refine k_cm false (by first | exact C_isnt0 | exact C_isnt1 rfl | exact C_isntT) ?_
  apply X_nilP
  apply X_consP
  apply S_asg
  refine E_callF ok (tG hG rfl) (tF hG rfl) ?_
  refine Es_loc rfl ?_
  apply Es_nil
  refine k_ca (h1) ?_
  apply X_consP
  apply S_expr
  refine E_callF ok (tG hG rfl) (tF hG rfl) ?_
  refine Es_loc rfl ?_
  refine Es_loc rfl ?_
  refine Es_loc rfl ?_
  apply Es_cons
  apply E_str
  apply Es_nil
  refine k_ca (h2) ?_
  apply X_consP
  apply S_if
  refine T_plainP rfl ?_
  refine E_loc rfl ?_
  apply k_bl
  apply X_nilP
  apply X_consP
  apply S_asg
  apply E_none
  apply X_consP
  apply S_if
  refine T_plainP rfl ?_
  refine E_loc rfl ?_
  apply k_bl
  apply X_nilP
  apply X_consP
  apply S_if
  apply T_cmpP
  refine E_loc rfl ?_
  apply E_none
  refine k_cm false (by first | exact C_isnt0 | exact C_isnt1 rfl | exact C_isntT) ?_
  apply X_nilP
  apply X_consP
  apply S_asg
  apply E_tuple
  refine Es_loc rfl ?_
  refine Es_loc rfl ?_
  refine Es_loc rfl ?_
  apply Es_cons
  refine E_callF ok (tG hG rfl) (tF hG rfl) ?_
  refine Es_loc rfl ?_
  apply Es_nil
  refine k_ca (need_rights_ok ok hG) ?_
  apply Es_cons
  refine E_callB ok (tG hG rfl) (by first | exact .inl ⟨_, rfl⟩ | exact .inr ⟨_, rfl⟩) ?_
  refine Es_loc rfl ?_
  apply Es_nil
  refine k_bc (B_bool) ?_
  apply Es_nil
  refine k_sh (lb rfl) ?_
  apply X_consP
  apply S_expr
  apply E_lm ok
  exact rfl
  ·(with_reducible repeat' first | assumption | exact get_new _ _ | apply get_put | apply get_old | refine get_nf (by assumption) ?_ | apply get_kd | with_unfolding_all rfl)
  exact tM hG rfl
  exact rfl
  refine Es_loc rfl ?_
  refine Es_loc rfl ?_
  apply Es_cons
  apply E_tuple
  apply Es_cons
  apply E_str
  refine Es_loc rfl ?_
  refine Es_loc rfl ?_
  apply Es_nil
  refine k_sh (lb rfl) ?_
  apply Es_nil
  refine k_ca (h5) ?_
  apply X_consP
  apply S_ret
  refine E_loc rfl ?_
  apply hQ
  exact ⟨rfl, cr, r1, r2, r3, r4⟩
 ·obtain ⟨r4, h4, g4⟩ := entry_yes ok hG (d := d + 6) (tr.all u12) me
  obtain ⟨ed, ev, eki, eo, el, er, ec, em, ech⟩ := e
  cases ke
  obtain ⟨_, T3, h3, rfl, u3⟩ := numbered_ok ok hG (d := d + 5) (T := T2) k1 k2 k3
  have u13 := u12.then u3 u12.1
  have hs3 := u13.get trivial hs
  obtain ⟨T', h5, cr, r1, r2, r3, r4⟩ := fin u13
  cases hvn
  refine C_funQ ok (l := [(1735222900, _), (126883592042095, _), (1936094326, _), (1717990261, _), (1769300593, _), (1970562675, _), (32763696029788516, _)]) (tF hG rfl) rfl fun Qz hQ => ?_
  apply X_consP
  apply S_asgT
  refine E_loc rfl ?_
  refine k_tu (.inr hr) rfl ?_
  apply X_consP
  apply S_if
  apply T_cmpP
  refine E_callB ok (tG hG rfl) (by first | exact .inl ⟨_, rfl⟩ | exact .inr ⟨_, rfl⟩) ?_
  refine Es_loc rfl ?_
  apply Es_nil
  refine k_bc (by first | exact B_typeS | exact B_typeI | exact B_typeT (by (with_reducible repeat' first | assumption | exact get_new _ _ | apply get_put | apply get_old | refine get_nf (by assumption) ?_ | apply get_kd | with_unfolding_all rfl))) ?_
  refine E_glb ok (tG hG rfl) ?_
  refine k_cm false (by first | exact C_isnt0 | exact C_isnt1 rfl | exact C_isntT) ?_
  apply X_nilP
  apply X_consP
  apply S_asg
  refine E_callF ok (tG hG rfl) (tF hG rfl) ?_
  refine Es_loc rfl ?_
  apply Es_nil
  refine k_ca (h1) ?_
  apply X_consP
  apply S_expr
  refine E_callF ok (tG hG rfl) (tF hG rfl) ?_
  refine Es_loc rfl ?_
  refine Es_loc rfl ?_
  refine Es_loc rfl ?_
  apply Es_cons
  apply E_str
  apply Es_nil
  refine k_ca (h2) ?_
  apply X_consP
  apply S_if
  refine T_plainP rfl ?_
  refine E_loc rfl ?_
  apply k_bl
  apply X_consP
  apply S_asg
  refine E_callF ok (tG hG rfl) (tF hG rfl) ?_
  refine Es_loc rfl ?_
  apply Es_cons
  apply E_attr ok
  apply E_lm ok
  exact rfl
  ·(with_reducible repeat' first | assumption | exact get_new _ _ | apply get_put | apply get_old | refine get_nf (by assumption) ?_ | apply get_kd | with_unfolding_all rfl)
  exact tM hG rfl
  exact rfl
  refine Es_loc rfl ?_
  apply Es_nil
  refine k_ca (h4) ?_
  apply k_at2
  ·(with_reducible repeat' first | assumption | exact get_new _ _ | apply get_put | apply get_old | refine get_nf (by assumption) ?_ | apply get_kd | with_unfolding_all rfl)
  exact tA hG rfl
  exact rfl
  apply Es_nil
  refine k_ca (h3) ?_
  apply X_nilP
  apply X_consP
  apply S_asg
  apply E_none
  apply X_consP
  apply S_if
  refine T_plainP rfl ?_
  refine E_loc rfl ?_
  apply k_bl
  apply X_consP
  apply S_asg
  refine E_loc rfl ?_
  apply X_nilP
  apply X_consP
  apply S_if
  apply T_cmpP
  refine E_loc rfl ?_
  apply E_none
  refine k_cm false (by first | exact C_isnt0 | exact C_isnt1 rfl | exact C_isntT) ?_
  apply X_nilP
  apply X_consP
  apply S_asg
  apply E_tuple
  refine Es_loc rfl ?_
  refine Es_loc rfl ?_
  refine Es_loc rfl ?_
  apply Es_cons
  refine E_callF ok (tG hG rfl) (tF hG rfl) ?_
  refine Es_loc rfl ?_
  apply Es_nil
  refine k_ca (need_rights_ok ok hG) ?_
  apply Es_cons
  refine E_callB ok (tG hG rfl) (by first | exact .inl ⟨_, rfl⟩ | exact .inr ⟨_, rfl⟩) ?_
  refine Es_loc rfl ?_
  apply Es_nil
  refine k_bc (B_bool) ?_
  apply Es_nil
  refine k_sh (lb rfl) ?_
  apply X_consP
  apply S_expr
  apply E_lm ok
  exact rfl
  ·(with_reducible repeat' first | assumption | exact get_new _ _ | apply get_put | apply get_old | refine get_nf (by assumption) ?_ | apply get_kd | with_unfolding_all rfl)
  exact tM hG rfl
  exact rfl
  refine Es_loc rfl ?_
  refine Es_loc rfl ?_
  apply Es_cons
  apply E_tuple
  apply Es_cons
  apply E_str
  refine Es_loc rfl ?_
  refine Es_loc rfl ?_
  apply Es_nil
  refine k_sh (lb rfl) ?_
  apply Es_nil
  refine k_ca (h5) ?_
  apply X_consP
  apply S_ret
  refine E_loc rfl ?_
  apply hQ
  exact ⟨rfl, cr, r1, r2, r3, r4⟩
end
noncomputable def StepS (c : Cx) (d s : Nat) (nb : Int) (u : List Nat) (sf : SF) (es : Es) (stp : List AV) (ans : AV) (ch : Ch) : Prop :=
 ∀ (H : Hp) (lo t st cl : Nat), H.get s = some sf.ob → TreeAt H lo t es → H.get st = some (.tuple stp) → H.get cl = some (.list []) → 1 ≤ lo → lo ≤ H.n → 1 ≤ cl →
  CaP c H 674 [.ref s, .int nb, .str u, .ref t, .ref st, .ref cl] d fun v T' => v = ans ∧ ∃ cr, TreeAt T' lo t (appE (sf.rev + 1) es ch) ∧ T'.get cl = some (.list [.ref cr]) ∧ ChAt T' cr ch ∧ Upd H.n (KD lo cl) H T'
section
variable {c : Cx} (ok : Ok c) (hG : c.G = G) {d lo t s : Nat} {T : Hp} {es : Es} {sf : SF}
include ok hG
theorem step_create {p u data q : List Nat} {num van : Bool} {k : Nat} {nb : Int} (hp : OkP p) (ne : p ≠ [47]) (rc : Rch es (parL p)) (hu : u ≠ [42]) (hq : NumOf es num p q k) (hvn : van = num) (h : okC es (crC q data van num nb)) : StepS c (d + 9) s nb u sf es [.str [99, 114, 101, 97, 116, 101], .str p, .str data, .bool van, .bool num, .none, .none] (.str q) (crC q data van num nb) := by
 intro H lo t st cl hs tr hst hl l1 ln l2
 obtain ⟨_, T1, h1, rfl, u1⟩ := need_ok ok hG (d := d + 7) (T := H) hp
 have hst1 := u1.get trivial hst
 have hs1 := u1.get trivial hs
 have hl1 := u1.get trivial hl
 have n1 : 1 ≤ T1.n := Nat.le_trans l1 (Nat.le_trans ln u1.1)
 refine C_funQ ok (l := [(1735222900, _), (126883592042095, _), (1936094326, _), (1717990261, _), (1902540148, _), (32763696029788516, _)]) (tF hG rfl) rfl fun Qz hQ => ?_
 apply X_consP
 apply S_asgW
 apply E_tuple
 apply Es_cons
 apply E_sub
 refine E_loc rfl ?_
 apply E_int
 refine k_it (by first | exact I_tuple (j := 0) (by (with_reducible repeat' first | assumption | exact get_new _ _ | apply get_put | apply get_old | refine get_nf (by assumption) ?_ | apply get_kd | with_unfolding_all rfl)) rfl (lb rfl) | exact I_list (j := 0) (by (with_reducible repeat' first | assumption | exact get_new _ _ | apply get_put | apply get_old | refine get_nf (by assumption) ?_ | apply get_kd | with_unfolding_all rfl)) rfl (lb rfl)) ?_
 apply Es_cons
 refine E_callF ok (tG hG rfl) (tF hG rfl) ?_
 apply Es_cons
 apply E_sub
 refine E_loc rfl ?_
 apply E_int
 refine k_it (by first | exact I_tuple (j := 1) (by (with_reducible repeat' first | assumption | exact get_new _ _ | apply get_put | apply get_old | refine get_nf (by assumption) ?_ | apply get_kd | with_unfolding_all rfl)) rfl (lb rfl) | exact I_list (j := 1) (by (with_reducible repeat' first | assumption | exact get_new _ _ | apply get_put | apply get_old | refine get_nf (by assumption) ?_ | apply get_kd | with_unfolding_all rfl)) rfl (lb rfl)) ?_
 apply Es_nil
 refine k_ca (h1) ?_
 apply Es_nil
 refine k_sh (lb rfl) ?_
 apply k_tw
 ·(with_reducible repeat' first | assumption | exact get_new _ _ | apply get_put | apply get_old | refine get_nf (by assumption) ?_ | apply get_kd | with_unfolding_all rfl)
 exact rfl
 apply X_consP
 apply S_asg
 refine E_callB ok (tG hG rfl) (by first | exact .inl ⟨_, rfl⟩ | exact .inr ⟨_, rfl⟩) ?_
 apply Es_cons
 apply E_slice
 refine E_loc rfl ?_
 apply E_int
 refine k_sl (S_tuple (k := 2) (by (with_reducible repeat' first | assumption | exact get_new _ _ | apply get_put | apply get_old | refine get_nf (by assumption) ?_ | apply get_kd | with_unfolding_all rfl)) (lb rfl) (lb rfl) (lb rfl)) ?_
 apply Es_nil
 refine k_bc (B_listT (by (with_reducible repeat' first | assumption | exact get_new _ _ | apply get_put | apply get_old | refine get_nf (by assumption) ?_ | apply get_kd | with_unfolding_all rfl)) (lb rfl)) ?_
 apply X_consP
 apply S_if
 apply T_cmpP
 refine E_callB ok (tG hG rfl) (by first | exact .inl ⟨_, rfl⟩ | exact .inr ⟨_, rfl⟩) ?_
 refine Es_loc rfl ?_
 apply Es_nil
 refine k_bc (by first | exact B_lenL (by (with_reducible repeat' first | assumption | exact get_new _ _ | apply get_put | apply get_old | refine get_nf (by assumption) ?_ | apply get_kd | with_unfolding_all rfl)) (lb rfl) | exact B_lenT (by (with_reducible repeat' first | assumption | exact get_new _ _ | apply get_put | apply get_old | refine get_nf (by assumption) ?_ | apply get_kd | with_unfolding_all rfl)) (lb rfl) | exact B_lenS (lb rfl)) ?_
 apply E_sub
 apply E_dict ok
 apply P_consP
 apply E_str
 apply E_int
 apply P_consP
 apply E_str
 apply E_int
 apply P_consP
 apply E_str
 apply E_int
 apply P_consP
 apply E_str
 apply E_int
 apply P_consP
 apply E_str
 apply E_int
 apply P_nilP
 apply k_di
 ·(with_reducible repeat' first | assumption | exact get_new _ _ | apply get_put | apply get_old | refine get_nf (by assumption) ?_ | apply get_kd | with_unfolding_all rfl)
 exact Nat.ble_eq_true_of_le (by first | assumption | exact Nat.le_add_left 1 _ | exact lb rfl)
 exact rfl
 exact List.cons_ne_nil _ _
 exact rfl
 refine E_loc rfl ?_
 refine k_it (I_dict (show Hp.get _ _ = some (.dict [(.str [99, 104, 101, 99, 107], .int 1), (.str [99, 114, 101, 97, 116, 101], .int 5), (.str [115, 101, 116], .int 2), (.str [100, 101, 108, 101, 116, 101], .int 1), (.str [103, 101, 116], .int 0)] 5) from get_put (by (with_reducible repeat' first | assumption | exact get_new _ _ | apply get_put | apply get_old | refine get_nf (by assumption) ?_ | apply get_kd | with_unfolding_all rfl))) rfl rfl) ?_
 refine k_cm false (C_gt) ?_
 apply X_nilP
 apply X_consP
 apply S_if
 apply T_cmpP
 refine E_loc rfl ?_
 apply E_str
 refine k_cm true (C_eq rfl) ?_
 apply X_consP
 apply S_asg
 apply E_bin
 refine E_loc rfl ?_
 apply E_slice
 apply E_list
 apply Es_cons
 apply E_str
 apply Es_cons
 apply E_bool
 apply Es_cons
 apply E_bool
 apply Es_cons
 apply E_none
 apply Es_cons
 apply E_none
 apply Es_nil
 refine k_sh (lb rfl) ?_
 refine E_callB ok (tG hG rfl) (by first | exact .inl ⟨_, rfl⟩ | exact .inr ⟨_, rfl⟩) ?_
 refine Es_loc rfl ?_
 apply Es_nil
 refine k_bc (by first | exact B_lenL (by (with_reducible repeat' first | assumption | exact get_new _ _ | apply get_put | apply get_old | refine get_nf (by assumption) ?_ | apply get_kd | with_unfolding_all rfl)) (lb rfl) | exact B_lenT (by (with_reducible repeat' first | assumption | exact get_new _ _ | apply get_put | apply get_old | refine get_nf (by assumption) ?_ | apply get_kd | with_unfolding_all rfl)) (lb rfl) | exact B_lenS (lb rfl)) ?_
 refine k_sl (S_list (by (with_reducible repeat' first | assumption | exact get_new _ _ | apply get_put | apply get_old | refine get_nf (by assumption) ?_ | apply get_kd | with_unfolding_all rfl)) (lb rfl) (cut_dn _ _)) ?_
 refine k_bi (B_addL (by (with_reducible repeat' first | assumption | exact get_new _ _ | apply get_put | apply get_old | refine get_nf (by assumption) ?_ | apply get_kd | with_unfolding_all rfl)) (by (with_reducible repeat' first | assumption | exact get_new _ _ | apply get_put | apply get_old | refine get_nf (by assumption) ?_ | apply get_kd | with_unfolding_all rfl)) (lb rfl)) ?_
 have ux : Upd H.n All H T1 := u1
 apply X_consP
 apply S_ret
 apply E_lm ok
 exact rfl
 ·(with_reducible repeat' first | assumption | exact get_new _ _ | apply get_put | apply get_old | refine get_nf (by assumption) ?_ | apply get_kd | with_unfolding_all rfl)
 exact tM hG rfl
 exact rfl
 refine Es_loc rfl ?_
 refine Es_loc rfl ?_
 refine Es_loc rfl ?_
 refine Es_loc rfl ?_
 refine Es_loc rfl ?_
 refine Es_loc rfl ?_
 apply Es_nil
 refine CaP.imp (screate ok hG (d := d) (by (with_reducible repeat' first | assumption | exact get_new _ _ | apply get_put | apply get_old | refine get_nf (by assumption) ?_ | apply get_kd | with_unfolding_all rfl)) (tr.all (by (with_reducible repeat' first | assumption | exact Upd.refl | apply Upd.new | apply Upd.put | apply Upd.leA))) (by first | exact get_new _ _) hp ne rc hu hq hvn h (by (with_reducible repeat' first | assumption | exact get_new _ _ | apply get_put | apply get_old | refine get_nf (by assumption) ?_ | apply get_kd | with_unfolding_all rfl)) (lb rfl) (Nat.le_trans ln (Upd.leA (by (with_reducible repeat' first | assumption | exact Upd.refl | apply Upd.new | apply Upd.put | apply Upd.leA)))) l1 l2) ?_
 rintro _ T9 ⟨rfl, cr, r1, r2, r3, r4⟩
 apply hQ
 refine ⟨rfl, cr, r1, r2, r3, Upd.then (Upd.a ?_) r4 (Upd.leA ?_)⟩
 ·(with_reducible repeat' first | assumption | exact Upd.refl | apply Upd.new | apply Upd.put | apply Upd.leA)
 ·(with_reducible repeat' first | assumption | exact Upd.refl | apply Upd.new | apply Upd.put | apply Upd.leA)
end
section
variable {c : Cx} (ok : Ok c) (hG : c.G = G) {d lo t s : Nat} {T : Hp} {es : Es} {sf : SF}
include ok hG
theorem version_ok {p : List Nat} {e : En} (tr : TreeAt T lo t es) (m : (p, e) ∈ es) (hv : e.ver ≠ -1) : Ca c 745 [.ref t, .str p, .none] (d + 2) T (.int e.ver) T := by
 have hh := has_yes ok hG (d := d) tr m
 obtain ⟨r, he, ge⟩ := entry_yes ok hG (d := d) tr m
 obtain ⟨dr, ep, xs, t3, hx⟩ := id tr
 have ht := t3.ht
 have : CaP c T 745 [.ref t, .str p, .none] (d + 2) fun u T' => u = .int e.ver ∧ T' = T := by
  refine C_funQ ok (l := [(1717990261, _), (1769300593, _), (31367324937447031, _)]) (tF hG rfl) rfl fun Qz hQ => ?_
  apply X_consP
  apply S_asg
  apply E_neg
  apply E_int
  apply k_in
  apply X_consP
  apply S_if
  refine T_plainP rfl ?_
  apply E_lm ok
  exact rfl
  ·(with_reducible repeat' first | assumption | exact get_new _ _ | apply get_put | apply get_old | refine get_nf (by assumption) ?_ | apply get_kd | with_unfolding_all rfl)
  exact tM hG rfl
  exact rfl
  refine Es_loc rfl ?_
  apply Es_nil
  refine k_ca (hh) ?_
  apply k_bl
  apply X_consP
  apply S_asg
  apply E_attr ok
  apply E_lm ok
  exact rfl
  ·(with_reducible repeat' first | assumption | exact get_new _ _ | apply get_put | apply get_old | refine get_nf (by assumption) ?_ | apply get_kd | with_unfolding_all rfl)
  exact tM hG rfl
  exact rfl
  refine Es_loc rfl ?_
  apply Es_nil
  refine k_ca (he) ?_
  apply k_at2
  ·(with_reducible repeat' first | assumption | exact get_new _ _ | apply get_put | apply get_old | refine get_nf (by assumption) ?_ | apply get_kd | with_unfolding_all rfl)
  exact tA hG rfl
  exact rfl
  apply X_nilP
  apply X_consP
  apply S_if
  apply T_andP
  apply Ts_stopP
  apply T_cmpP
  refine E_loc rfl ?_
  apply E_none
  refine k_cm false (by first | exact C_isnt0 | exact C_isnt1 rfl | exact C_isntT) ?_
  apply k_ye
  apply X_nilP
  apply X_consP
  apply S_if
  apply T_andP
  apply Ts_stopP
  apply T_cmpP
  refine E_loc rfl ?_
  apply E_neg
  apply E_int
  apply k_in
  refine k_cm false (C_eq (congrArg some (decide_eq_false hv))) ?_
  apply k_ye
  apply X_nilP
  apply X_consP
  apply S_ret
  refine E_loc rfl ?_
  apply hQ
  exact ⟨rfl, rfl⟩
 obtain ⟨_, _, h, rfl, rfl⟩ := this
 exact h
theorem step_delete {p u : List Nat} {nb : Int} {e : En} (hp : OkP p) (rc : Rch es p) (hu : u ≠ [42]) (m : (p, e) ∈ es) (hv : e.ver ≠ -1) (h : okC es (.delete p)) : StepS c (d + 8) s nb u sf es [.str [100, 101, 108, 101, 116, 101], .str p, .none] .none (.delete p) := by
 intro H lo t st cl hs tr hst hl l1 ln l2
 obtain ⟨_, T1, h1, rfl, u1⟩ := need_ok ok hG (d := d + 6) (T := H) hp
 have hst1 := u1.get trivial hst
 have hs1 := u1.get trivial hs
 have hl1 := u1.get trivial hl
 have n1 : 1 ≤ T1.n := Nat.le_trans l1 (Nat.le_trans ln u1.1)
 refine C_funQ ok (l := [(1735222900, _), (126883592042095, _), (1936094326, _), (1717990261, _), (1902540148, _), (32763696029788516, _)]) (tF hG rfl) rfl fun Qz hQ => ?_
 apply X_consP
 apply S_asgW
 apply E_tuple
 apply Es_cons
 apply E_sub
 refine E_loc rfl ?_
 apply E_int
 refine k_it (by first | exact I_tuple (j := 0) (by (with_reducible repeat' first | assumption | exact get_new _ _ | apply get_put | apply get_old | refine get_nf (by assumption) ?_ | apply get_kd | with_unfolding_all rfl)) rfl (lb rfl) | exact I_list (j := 0) (by (with_reducible repeat' first | assumption | exact get_new _ _ | apply get_put | apply get_old | refine get_nf (by assumption) ?_ | apply get_kd | with_unfolding_all rfl)) rfl (lb rfl)) ?_
 apply Es_cons
 refine E_callF ok (tG hG rfl) (tF hG rfl) ?_
 apply Es_cons
 apply E_sub
 refine E_loc rfl ?_
 apply E_int
 refine k_it (by first | exact I_tuple (j := 1) (by (with_reducible repeat' first | assumption | exact get_new _ _ | apply get_put | apply get_old | refine get_nf (by assumption) ?_ | apply get_kd | with_unfolding_all rfl)) rfl (lb rfl) | exact I_list (j := 1) (by (with_reducible repeat' first | assumption | exact get_new _ _ | apply get_put | apply get_old | refine get_nf (by assumption) ?_ | apply get_kd | with_unfolding_all rfl)) rfl (lb rfl)) ?_
 apply Es_nil
 refine k_ca (h1) ?_
 apply Es_nil
 refine k_sh (lb rfl) ?_
 apply k_tw
 ·(with_reducible repeat' first | assumption | exact get_new _ _ | apply get_put | apply get_old | refine get_nf (by assumption) ?_ | apply get_kd | with_unfolding_all rfl)
 exact rfl
 apply X_consP
 apply S_asg
 refine E_callB ok (tG hG rfl) (by first | exact .inl ⟨_, rfl⟩ | exact .inr ⟨_, rfl⟩) ?_
 apply Es_cons
 apply E_slice
 refine E_loc rfl ?_
 apply E_int
 refine k_sl (S_tuple (k := 2) (by (with_reducible repeat' first | assumption | exact get_new _ _ | apply get_put | apply get_old | refine get_nf (by assumption) ?_ | apply get_kd | with_unfolding_all rfl)) (lb rfl) (lb rfl) (lb rfl)) ?_
 apply Es_nil
 refine k_bc (B_listT (by (with_reducible repeat' first | assumption | exact get_new _ _ | apply get_put | apply get_old | refine get_nf (by assumption) ?_ | apply get_kd | with_unfolding_all rfl)) (lb rfl)) ?_
 apply X_consP
 apply S_if
 apply T_cmpP
 refine E_callB ok (tG hG rfl) (by first | exact .inl ⟨_, rfl⟩ | exact .inr ⟨_, rfl⟩) ?_
 refine Es_loc rfl ?_
 apply Es_nil
 refine k_bc (by first | exact B_lenL (by (with_reducible repeat' first | assumption | exact get_new _ _ | apply get_put | apply get_old | refine get_nf (by assumption) ?_ | apply get_kd | with_unfolding_all rfl)) (lb rfl) | exact B_lenT (by (with_reducible repeat' first | assumption | exact get_new _ _ | apply get_put | apply get_old | refine get_nf (by assumption) ?_ | apply get_kd | with_unfolding_all rfl)) (lb rfl) | exact B_lenS (lb rfl)) ?_
 apply E_sub
 apply E_dict ok
 apply P_consP
 apply E_str
 apply E_int
 apply P_consP
 apply E_str
 apply E_int
 apply P_consP
 apply E_str
 apply E_int
 apply P_consP
 apply E_str
 apply E_int
 apply P_consP
 apply E_str
 apply E_int
 apply P_nilP
 apply k_di
 ·(with_reducible repeat' first | assumption | exact get_new _ _ | apply get_put | apply get_old | refine get_nf (by assumption) ?_ | apply get_kd | with_unfolding_all rfl)
 exact Nat.ble_eq_true_of_le (by first | assumption | exact Nat.le_add_left 1 _ | exact lb rfl)
 exact rfl
 exact List.cons_ne_nil _ _
 exact rfl
 refine E_loc rfl ?_
 refine k_it (I_dict (show Hp.get _ _ = some (.dict [(.str [99, 104, 101, 99, 107], .int 1), (.str [99, 114, 101, 97, 116, 101], .int 5), (.str [115, 101, 116], .int 2), (.str [100, 101, 108, 101, 116, 101], .int 1), (.str [103, 101, 116], .int 0)] 5) from get_put (by (with_reducible repeat' first | assumption | exact get_new _ _ | apply get_put | apply get_old | refine get_nf (by assumption) ?_ | apply get_kd | with_unfolding_all rfl))) rfl rfl) ?_
 refine k_cm false (C_gt) ?_
 apply X_nilP
 apply X_consP
 apply S_if
 apply T_cmpP
 refine E_loc rfl ?_
 apply E_str
 refine k_cm false (C_eq rfl) ?_
 apply X_nilP
 apply X_consP
 apply S_if
 apply T_cmpP
 refine E_loc rfl ?_
 apply E_str
 refine k_cm false (C_eq rfl) ?_
 apply X_nilP
 apply X_consP
 apply S_asg
 apply E_none
 apply X_consP
 apply S_if
 apply T_andP
 apply Ts_stopP
 apply T_cmpP
 refine E_loc rfl ?_
 apply E_str
 refine k_cm false (C_eq rfl) ?_
 apply k_ye
 apply X_nilP
 apply X_consP
 apply S_if
 apply T_andP
 apply Ts_goP
 apply T_cmpP
 refine E_loc rfl ?_
 apply E_list
 apply Es_cons
 apply E_str
 apply Es_cons
 apply E_str
 apply Es_nil
 refine k_sh (lb rfl) ?_
 refine k_cm true (cmt (C_in (.inr (get_new _ _)) rfl) rfl) ?_
 apply k_ye
 apply Ts_goP
 apply T_cmpP
 refine E_callB ok (tG hG rfl) (by first | exact .inl ⟨_, rfl⟩ | exact .inr ⟨_, rfl⟩) ?_
 refine Es_loc rfl ?_
 apply Es_nil
 refine k_bc (by first | exact B_lenL (by (with_reducible repeat' first | assumption | exact get_new _ _ | apply get_put | apply get_old | refine get_nf (by assumption) ?_ | apply get_kd | with_unfolding_all rfl)) (lb rfl) | exact B_lenT (by (with_reducible repeat' first | assumption | exact get_new _ _ | apply get_put | apply get_old | refine get_nf (by assumption) ?_ | apply get_kd | with_unfolding_all rfl)) (lb rfl) | exact B_lenS (lb rfl)) ?_
 apply E_int
 refine k_cm true (C_gt) ?_
 apply k_ye
 apply Ts_nilP
 apply X_consP
 apply S_asg
 apply E_sub
 refine E_loc rfl ?_
 apply E_int
 refine k_it (by first | exact I_tuple (j := 0) (by (with_reducible repeat' first | assumption | exact get_new _ _ | apply get_put | apply get_old | refine get_nf (by assumption) ?_ | apply get_kd | with_unfolding_all rfl)) rfl (lb rfl) | exact I_list (j := 0) (by (with_reducible repeat' first | assumption | exact get_new _ _ | apply get_put | apply get_old | refine get_nf (by assumption) ?_ | apply get_kd | with_unfolding_all rfl)) rfl (lb rfl)) ?_
 apply X_nilP
 apply X_consP
 apply S_expr
 refine E_callF ok (tG hG rfl) (tF hG rfl) ?_
 refine Es_loc rfl ?_
 refine Es_loc rfl ?_
 refine Es_loc rfl ?_
 apply Es_cons
 apply E_sub
 apply E_dict ok
 apply P_consP
 apply E_str
 apply E_str
 apply P_consP
 apply E_str
 apply E_str
 apply P_consP
 apply E_str
 apply E_str
 apply P_nilP
 apply k_di
 ·(with_reducible repeat' first | assumption | exact get_new _ _ | apply get_put | apply get_old | refine get_nf (by assumption) ?_ | apply get_kd | with_unfolding_all rfl)
 exact Nat.ble_eq_true_of_le (by first | assumption | exact Nat.le_add_left 1 _ | exact lb rfl)
 exact rfl
 exact List.cons_ne_nil _ _
 exact rfl
 refine E_loc rfl ?_
 refine k_it (I_dict (show Hp.get _ _ = some (.dict [(.str [99, 104, 101, 99, 107], .str [114]), (.str [115, 101, 116], .str [119]), (.str [100, 101, 108, 101, 116, 101], .str [100])] 3) from get_put (by (with_reducible repeat' first | assumption | exact get_new _ _ | apply get_put | apply get_old | refine get_nf (by assumption) ?_ | apply get_kd | with_unfolding_all rfl))) rfl rfl) ?_
 apply Es_nil
 refine CaP.imp (need_right_ok ok hG (d := d + 1) (tr.all (by (with_reducible repeat' first | assumption | exact Upd.refl | apply Upd.new | apply Upd.put | apply Upd.leA))) rc hu rfl) ?_
 rintro _ T4 ⟨rfl, u4⟩
 have u4a : Upd H.n All H T4 := Upd.then (by (with_reducible repeat' first | assumption | exact Upd.refl | apply Upd.new | apply Upd.put | apply Upd.leA)) u4 (Upd.leA (by (with_reducible repeat' first | assumption | exact Upd.refl | apply Upd.new | apply Upd.put | apply Upd.leA)))
 have hs4 := u4a.get trivial hs
 have hl4 := u4a.get trivial hl
 apply X_consP
 apply S_asg
 refine E_callF ok (tG hG rfl) (tF hG rfl) ?_
 refine Es_loc rfl ?_
 refine Es_loc rfl ?_
 refine Es_loc rfl ?_
 apply Es_nil
 refine k_ca (version_ok ok hG (d := d + 5) (tr.all u4a) m hv) ?_
 apply X_consP
 apply S_if
 apply T_cmpP
 refine E_loc rfl ?_
 apply E_str
 refine k_cm false (C_eq rfl) ?_
 apply X_nilP
 apply X_consP
 apply S_if
 apply T_cmpP
 refine E_loc rfl ?_
 apply E_str
 refine k_cm true (C_eq rfl) ?_
 apply X_consP
 apply S_expr
 apply E_lm ok
 exact rfl
 ·(with_reducible repeat' first | assumption | exact get_new _ _ | apply get_put | apply get_old | refine get_nf (by assumption) ?_ | apply get_kd | with_unfolding_all rfl)
 exact tM hG rfl
 exact rfl
 refine Es_loc rfl ?_
 refine Es_loc rfl ?_
 apply Es_cons
 apply E_tuple
 apply Es_cons
 apply E_str
 refine Es_loc rfl ?_
 apply Es_nil
 refine k_sh (lb rfl) ?_
 apply Es_nil
 refine CaP.imp (do_ok ok hG (d := d + 1) (ch := .delete p) (by (with_reducible repeat' first | assumption | exact get_new _ _ | apply get_put | apply get_old | refine get_nf (by assumption) ?_ | apply get_kd | with_unfolding_all rfl)) (tr.all (by (with_reducible repeat' first | assumption | exact Upd.refl | apply Upd.new | apply Upd.put | apply Upd.leA))) (get_new _ _) h (by (with_reducible repeat' first | assumption | exact get_new _ _ | apply get_put | apply get_old | refine get_nf (by assumption) ?_ | apply get_kd | with_unfolding_all rfl)) (lb rfl) (Nat.le_trans ln (Upd.leA (by (with_reducible repeat' first | assumption | exact Upd.refl | apply Upd.new | apply Upd.put | apply Upd.leA)))) l1 l2) ?_
 rintro _ T9 ⟨rfl, r1, r2, r4⟩
 apply X_consP
 apply S_ret
 apply E_none
 apply hQ
 refine ⟨rfl, _, r1, r2, ChAt.upd (ch := .delete p) (get_new _ _) r4 (fun x vs g => ⟨ne_kd (get_old hl4) g rfl, .inr ⟨rfl, rfl⟩⟩), Upd.then (Upd.a ?_) r4 (Upd.leA ?_)⟩
 ·(with_reducible repeat' first | assumption | exact Upd.refl | apply Upd.new | apply Upd.put | apply Upd.leA)
 ·(with_reducible repeat' first | assumption | exact Upd.refl | apply Upd.new | apply Upd.put | apply Upd.leA)
end
theorem KD.low {n lo cl : Nat} {T T' : Hp} (u : Upd n (KD lo cl) T T') (h : lo ≤ n) (h2 : lo ≤ cl) : Upd lo All T T' := ⟨u.1, fun r a q _ g => u.2 r a (Nat.lt_of_lt_of_le q h) ⟨Nat.ne_of_lt (Nat.lt_of_lt_of_le q h2), .inl q⟩ g⟩
noncomputable def But (x : Nat) : Nat → AO → Prop := fun r _ => r ≠ x
noncomputable abbrev stepsT : List AV := [.str [99, 104, 101, 99, 107], .str [99, 114, 101, 97, 116, 101], .str [115, 101, 116], .str [100, 101, 108, 101, 116, 101], .str [103, 101, 116]]
theorem TreeAt.off {T : Hp} {lo t r : Nat} {es : Es} {o o' : AO} (h : TreeAt T lo t es) (g : T.get r = some o) (q1 : Nat.beq (kd o) (254 + 6) = false) (q2 : Nat.beq (kd o) 0 = false) (q3 : Nat.beq (kd o) (178 + 6) = false) : TreeAt (hput T r o') lo t es :=
 let ⟨dr, ep, xs, t3, hx⟩ := h
 ⟨dr, ep, xs, { t3 with ht := get_kd g t3.ht q1, hd := get_kd g t3.hd q2, he := fun x m => get_kd g (t3.he x m) q3 }, hx⟩
structure SesAt (T : Hp) (sd ep : Nat) (ss : List Sn) : Prop where
 hd : T.get sd = some (.dict (ss.map Sn.dc) ep)
 he : ∀ x ∈ ss, 1 ≤ x.r ∧ ∃ h, T.get x.r = some (x.ob h)
 nd : (ss.map Sn.num).Nodup
section
variable {c : Cx} (ok : Ok c) (hG : c.G = G) {d lo t s : Nat} {T : Hp} {es : Es} {sf : SF}
include ok hG
theorem steps_ok {x : Sn} {ss : List Sn} {ep lo0 st sl : Nat} {w p : List Nat} {tl : List AV} {ans : AV} {ch : Ch} (hs : T.get s = some sf.ob) (se : SesAt T sf.ses ep ss) (mx : x ∈ ss) (tr : TreeAt T lo0 sf.tree es) (hstp : StepS c (d + 8) s x.num x.u sf es (.str w :: .str p :: tl) ans ch) (hw : stepsT.any (sq · (.str w)) = true) (htl : tl.length ≤ 8) (hst : T.get st = some (.tuple (.str w :: .str p :: tl))) (hsl : T.get sl = some (.list [.ref st])) (hn : 1 ≤ T.n) :
  CaP c T 667 [.ref s, .int x.num, .ref sl, .bool false] (d + 9) fun v T' => ∃ rt t cl al cr, v = .ref rt ∧ T'.get rt = some (.tuple [.ref t, .ref cl, .ref al]) ∧ TreeAt T' T.n t (appE (sf.rev + 1) es ch) ∧ T'.get cl = some (.list [.ref cr]) ∧ ChAt T' cr ch ∧ T'.get al = some (.list [ans]) ∧ Upd T.n (But x.r) T T' ∧ T.n ≤ al ∧ T'.get x.r = some (x.ob sf.tick) := by
 obtain ⟨l1, hh, gx⟩ := se.he x mx
 have h1 := session_ok ok hG (d := d + 7) hs se.hd mx se.nd gx l1
 have u1 : Upd T.n (But x.r) T (hput T x.r (x.ob sf.tick)) := Upd.refl.set (fun _ k => k rfl) gx
 have tr1 := tr.off (o' := x.ob sf.tick) gx rfl rfl rfl
 obtain ⟨_, T2, h2, rfl, tr2, u2⟩ := tree_copy ok hG (d := d + 3) tr1 hn
 have hs1 : (hput T x.r (x.ob sf.tick)).get s = some sf.ob := get_kd gx hs rfl
 have hs2 := u2.get trivial hs1
 have g1 : (hput T x.r (x.ob sf.tick)).get x.r = some (x.ob sf.tick) := get_put gx
 have hst2 := u2.get trivial (get_kd gx hst rfl)
 have hsl2 := u2.get trivial (get_kd gx hsl rfl)
 have n2 : 1 ≤ T2.n := Nat.le_trans hn u2.1
 have hS : lk c.G.top 464 = some stepsT := by rw [hG]; rfl
 obtain ⟨dr, ep9, xs, t3, hx⟩ := id tr1
 have ht := t3.ht
 refine C_funQ ok (l := [(1735222900, _), (126883592042095, _), (500118746484, _), (30789020241323636, _)]) (tF hG rfl) rfl fun Qz hQ => ?_
 apply X_consP
 apply S_asg
 apply E_attr ok
 apply E_lm ok
 exact rfl
 ·(with_reducible repeat' first | assumption | exact get_new _ _ | apply get_put | apply get_old | refine get_nf (by assumption) ?_ | apply get_kd | with_unfolding_all rfl)
 exact tM hG rfl
 exact rfl
 refine Es_loc rfl ?_
 apply Es_nil
 refine k_ca (h1) ?_
 apply k_at2
 ·(with_reducible repeat' first | assumption | exact get_new _ _ | apply get_put | apply get_old | refine get_nf (by assumption) ?_ | apply get_kd | with_unfolding_all rfl)
 exact tA hG rfl
 exact rfl
 apply X_consP
 apply S_asg
 apply E_meth ok
 apply E_la ok
 exact rfl
 ·(with_reducible repeat' first | assumption | exact get_new _ _ | apply get_put | apply get_old | refine get_nf (by assumption) ?_ | apply get_kd | with_unfolding_all rfl)
 exact tA hG rfl
 exact rfl
 apply k_mt2
 ·(with_reducible repeat' first | assumption | exact get_new _ _ | apply get_put | apply get_old | refine get_nf (by assumption) ?_ | apply get_kd | with_unfolding_all rfl)
 exact tM hG rfl
 exact rfl
 apply Es_nil
 refine k_ca (h2) ?_
 apply X_consP
 apply S_asg
 apply E_list
 apply Es_nil
 refine k_sh (lb rfl) ?_
 apply X_consP
 apply S_asg
 apply E_list
 apply Es_nil
 refine k_sh (lb rfl) ?_
 apply X_consP
 apply S_for
 refine E_callB ok (tG hG rfl) (by first | exact .inl ⟨_, rfl⟩ | exact .inr ⟨_, rfl⟩) ?_
 apply Es_cons
 refine E_callB ok (tG hG rfl) (by first | exact .inl ⟨_, rfl⟩ | exact .inr ⟨_, rfl⟩) ?_
 refine Es_loc rfl ?_
 apply Es_nil
 refine k_bc (by first | exact B_lenL (by (with_reducible repeat' first | assumption | exact get_new _ _ | apply get_put | apply get_old | refine get_nf (by assumption) ?_ | apply get_kd | with_unfolding_all rfl)) (lb rfl) | exact B_lenT (by (with_reducible repeat' first | assumption | exact get_new _ _ | apply get_put | apply get_old | refine get_nf (by assumption) ?_ | apply get_kd | with_unfolding_all rfl)) (lb rfl) | exact B_lenS (lb rfl)) ?_
 apply Es_nil
 refine k_bc (B_range) ?_
 refine k_ik (show IkOf _ _ (.range 0 1) from ⟨1, get_new _ _, by decide, by decide, by decide, by decide, rfl⟩) ?_
 refine L_nextP (show Turn _ _ 0 (some (.int 0)) (.range 0 1) from .inl ⟨Nat.one_pos, rfl⟩) (bind_one) ?_
 apply X_consP
 apply S_try
 apply X_consP
 apply S_if
 apply T_cmpP
 refine E_callB ok (tG hG rfl) (by first | exact .inl ⟨_, rfl⟩ | exact .inr ⟨_, rfl⟩) ?_
 apply Es_cons
 apply E_sub
 refine E_loc rfl ?_
 refine E_loc rfl ?_
 refine k_it (I_list (j := 0) (by (with_reducible repeat' first | assumption | exact get_new _ _ | apply get_put | apply get_old | refine get_nf (by assumption) ?_ | apply get_kd | with_unfolding_all rfl)) rfl (lb rfl)) ?_
 apply Es_nil
 refine k_bc (by first | exact B_typeS | exact B_typeI | exact B_typeT (by (with_reducible repeat' first | assumption | exact get_new _ _ | apply get_put | apply get_old | refine get_nf (by assumption) ?_ | apply get_kd | with_unfolding_all rfl))) ?_
 apply E_list
 apply Es_cons
 refine E_glb ok (tG hG rfl) ?_
 apply Es_cons
 refine E_glb ok (tG hG rfl) ?_
 apply Es_nil
 refine k_sh (lb rfl) ?_
 refine k_cm false (cmt (C_nin (.inr (get_new _ _)) rfl) rfl) ?_
 apply X_nilP
 apply X_consP
 apply S_asg
 refine E_callB ok (tG hG rfl) (by first | exact .inl ⟨_, rfl⟩ | exact .inr ⟨_, rfl⟩) ?_
 apply Es_cons
 apply E_sub
 refine E_loc rfl ?_
 refine E_loc rfl ?_
 refine k_it (I_list (j := 0) (by (with_reducible repeat' first | assumption | exact get_new _ _ | apply get_put | apply get_old | refine get_nf (by assumption) ?_ | apply get_kd | with_unfolding_all rfl)) rfl (lb rfl)) ?_
 apply Es_nil
 refine k_bc (B_tupleT (by (with_reducible repeat' first | assumption | exact get_new _ _ | apply get_put | apply get_old | refine get_nf (by assumption) ?_ | apply get_kd | with_unfolding_all rfl))) ?_
 apply X_consP
 apply S_if
 apply T_orP
 apply Ts_goP
 apply T_cmpP
 refine E_callB ok (tG hG rfl) (by first | exact .inl ⟨_, rfl⟩ | exact .inr ⟨_, rfl⟩) ?_
 refine Es_loc rfl ?_
 apply Es_nil
 refine k_bc (B_lenT (by (with_reducible repeat' first | assumption | exact get_new _ _ | apply get_put | apply get_old | refine get_nf (by assumption) ?_ | apply get_kd | with_unfolding_all rfl)) (lt4 (Nat.succ_le_succ (Nat.succ_le_succ htl)) rfl)) ?_
 apply E_int
 refine k_cm false (cmt C_lt (decide_eq_false (Int.not_lt.mpr (Int.ofNat_le.mpr (Nat.succ_le_succ (Nat.succ_le_succ (Nat.zero_le _))))))) ?_
 apply k_ye
 apply Ts_goP
 apply T_cmpP
 apply E_sub
 refine E_loc rfl ?_
 apply E_int
 refine k_it (by first | exact I_tuple (j := 0) (by (with_reducible repeat' first | assumption | exact get_new _ _ | apply get_put | apply get_old | refine get_nf (by assumption) ?_ | apply get_kd | with_unfolding_all rfl)) rfl (lb rfl) | exact I_list (j := 0) (by (with_reducible repeat' first | assumption | exact get_new _ _ | apply get_put | apply get_old | refine get_nf (by assumption) ?_ | apply get_kd | with_unfolding_all rfl)) rfl (lb rfl)) ?_
 refine E_glb ok (tG hG rfl) ?_
 refine k_cm false (cmt (C_ninO ok hS rfl) (by rw [hw]; rfl)) ?_
 apply k_ye
 apply Ts_nilP
 apply X_nilP
 apply X_consP
 apply S_expr
 apply E_methB
 refine E_loc rfl ?_
 refine k_bg ((G_append (by (with_reducible repeat' first | assumption | exact get_new _ _ | apply get_put | apply get_old | refine get_nf (by assumption) ?_ | apply get_kd | with_unfolding_all rfl)))) ?_
 apply Es_cons
 apply E_lm ok
 exact rfl
 ·(with_reducible repeat' first | assumption | exact get_new _ _ | apply get_put | apply get_old | refine get_nf (by assumption) ?_ | apply get_kd | with_unfolding_all rfl)
 exact tM hG rfl
 exact rfl
 refine Es_loc rfl ?_
 refine Es_loc rfl ?_
 refine Es_loc rfl ?_
 refine Es_loc rfl ?_
 refine Es_loc rfl ?_
 apply Es_nil
 refine CaP.imp (hstp _ T.n _ _ _ (by (with_reducible repeat' first | assumption | exact get_new _ _ | apply get_put | apply get_old | refine get_nf (by assumption) ?_ | apply get_kd | with_unfolding_all rfl)) (tr2.all (by (with_reducible repeat' first | assumption | exact Upd.refl | apply Upd.new | apply Upd.put | apply Upd.leA))) (by (with_reducible repeat' first | assumption | exact get_new _ _ | apply get_put | apply get_old | refine get_nf (by assumption) ?_ | apply get_kd | with_unfolding_all rfl)) (by (with_reducible repeat' first | assumption | exact get_new _ _ | apply get_put | apply get_old | refine get_nf (by assumption) ?_ | apply get_kd | with_unfolding_all rfl)) hn (Nat.le_trans u2.1 (Upd.leA (by (with_reducible repeat' first | assumption | exact Upd.refl | apply Upd.new | apply Upd.put | apply Upd.leA)))) n2) ?_
 rintro an T9 ⟨rfl, cr, r1, r2, r3, r4⟩
 have ga : T9.get (hnew T2 (.list [])).n = some (.list []) := r4.get ⟨Nat.ne_of_gt (Nat.lt_succ_self _), .inr ⟨rfl, rfl⟩⟩ (by (with_reducible repeat' first | assumption | exact get_new _ _ | apply get_put | apply get_old | refine get_nf (by assumption) ?_ | apply get_kd | with_unfolding_all rfl))
 apply Es_nil
 refine k_bm (M_append ga (lb rfl) (Nat.le_add_left 1 _)) ?_
 apply X_nilP
 apply X_nilP
 refine L_endP (show Turn _ _ 1 none (.range 0 1) from .inr ⟨Nat.le_refl _, rfl⟩) ?_
 apply X_consP
 apply S_ret
 apply E_tuple
 refine Es_loc rfl ?_
 refine Es_loc rfl ?_
 refine Es_loc rfl ?_
 apply Es_nil
 refine k_sh (lb rfl) ?_
 apply hQ
 have u9 : Upd T9.n (But (hnew T2 (.list [])).n) T9 (hput T9 (hnew T2 (.list [])).n (.list ([] ++ [an]))) := Upd.refl.set (fun _ k => k rfl) ga
 have uz : Upd T.n All (hput T x.r (x.ob sf.tick)) (hnew (hput T9 (hnew T2 (.list [])).n (.list ([] ++ [an]))) (.tuple [.ref T.n, .ref T2.n, .ref (hnew T2 (.list [])).n])) := by
  refine ((u2.trans (Upd.trans ?_ (KD.low r4 ?_ u2.1))).put (Nat.le_succ_of_le u2.1)).new
  ·(with_reducible repeat' first | assumption | exact Upd.refl | apply Upd.new | apply Upd.put | apply Upd.leA)
  ·exact Nat.le_trans u2.1 (Upd.leA (by (with_reducible repeat' first | assumption | exact Upd.refl | apply Upd.new | apply Upd.put | apply Upd.leA)))
 refine ⟨_, _, T2.n, (hnew T2 (.list [])).n, cr, rfl, get_new _ _, (r1.off ga rfl rfl rfl).all Upd.refl.new, get_old (get_nf (Nat.ne_of_lt (Nat.lt_succ_self _)) r2), r3.upd (P := But (hnew T2 (.list [])).n) u9.new fun y vs g => ne_kd ga g rfl, get_old (get_put ga), u1.trans uz.a, Nat.le_succ_of_le u2.1, uz.2 _ _ (lt_of_get gx) trivial g1⟩
end
structure Rn where
 r : Nat
 rev : Int
 tick : Int
 cs : Nat
 chs : List (Nat × Ch)
noncomputable abbrev cRf (y : Nat × Ch) : AV := .ref y.1
noncomputable abbrev Rn.rf (x : Rn) : AV := .ref x.r
structure RnAt (T : Hp) (x : Rn) : Prop where
 h1 : T.get x.r = some (.tuple [.int x.rev, .int x.tick, .ref x.cs])
 h2 : T.get x.cs = some (.tuple (x.chs.map cRf))
 h3 : ∀ y ∈ x.chs, ChAt T y.1 y.2
theorem RnAt.upd {T T' : Hp} {P : Nat → AO → Prop} {x : Rn} (h : RnAt T x) (u : Upd T.n P T T') (hp : ∀ x vs, T.get x = some (.tuple vs) → P x (.tuple vs)) : RnAt T' x := ⟨u.get (hp _ _ h.h1) h.h1, u.get (hp _ _ h.h2) h.h2, fun y m => (h.h3 y m).upd u hp⟩
noncomputable abbrev logOb (lr sp : Nat) : AO := .inst 334 [(1954050163, .ref lr), (8462379648668561268, .ref sp), (504447006068, .int 0)]
noncomputable def lastR (rows : List Rn) : Int := match rows.getLast? with | some x => x.rev | none => 0
theorem lastR_snoc (rows : List Rn) (x : Rn) : lastR (rows ++ [x]) = x.rev := by unfold lastR; rw [List.getLast?_append]; rfl
section
variable {c : Cx} (ok : Ok c) (hG : c.G = G) {d s lg lr sp : Nat} {T : Hp} {es : Es} {sf : SF} {rows : List Rn}
include ok hG
theorem log_last (hl : T.get lg = some (logOb lr sp)) (hr : T.get lr = some (.list (rows.map Rn.rf))) (rn : ∀ x ∈ rows, RnAt T x) (sz : rows.length < 50) : Ca c 307 [.ref lg] (d + 1) T (.int (lastR rows)) T := by
 have sz' : (rows.map Rn.rf).length < 4000 := by rw [List.length_map]; exact Nat.lt_trans sz (lb rfl)
 have : CaP c T 307 [.ref lg] (d + 1) fun u T' => u = .int (lastR rows) ∧ T' = T := by
  refine C_funQ ok (l := [(1735222900, _)]) (tF hG rfl) rfl fun Qz hQ => ?_
  unfold lastR at hQ
  cases e : rows.getLast? with
  | none =>
   rw [e] at hQ
   cases List.getLast?_eq_none_iff.mp e
   apply X_consP
   apply S_if
   apply T_cmpP
   refine E_callB ok (tG hG rfl) (by first | exact .inl ⟨_, rfl⟩ | exact .inr ⟨_, rfl⟩) ?_
   apply Es_cons
   apply E_la ok
   exact rfl
   ·(with_reducible repeat' first | assumption | exact get_new _ _ | apply get_put | apply get_old | refine get_nf (by assumption) ?_ | apply get_kd | with_unfolding_all rfl)
   exact tA hG rfl
   exact rfl
   apply Es_nil
   refine k_bc (B_lenL hr sz') ?_
   apply E_int
   refine k_cm true (C_eq rfl) ?_
   apply X_consP
   apply S_ret
   apply E_la ok
   exact rfl
   ·(with_reducible repeat' first | assumption | exact get_new _ _ | apply get_put | apply get_old | refine get_nf (by assumption) ?_ | apply get_kd | with_unfolding_all rfl)
   exact tA hG rfl
   exact rfl
   apply hQ
   exact ⟨rfl, rfl⟩
  | some x =>
   rw [e] at hQ
   have m := List.mem_of_getLast? e
   have ne : rows.length ≠ 0 := fun z => by rw [List.length_eq_zero_iff.mp z] at m; cases m
   have rx := (rn x m).h1
   apply X_consP
   apply S_if
   apply T_cmpP
   refine E_callB ok (tG hG rfl) (by first | exact .inl ⟨_, rfl⟩ | exact .inr ⟨_, rfl⟩) ?_
   apply Es_cons
   apply E_la ok
   exact rfl
   ·(with_reducible repeat' first | assumption | exact get_new _ _ | apply get_put | apply get_old | refine get_nf (by assumption) ?_ | apply get_kd | with_unfolding_all rfl)
   exact tA hG rfl
   exact rfl
   apply Es_nil
   refine k_bc (B_lenL hr sz') ?_
   apply E_int
   refine k_cm false (C_eq (congrArg some (decide_eq_false fun z => ne (by rw [List.length_map] at z; exact Int.ofNat_inj.mp z)))) ?_
   apply X_nilP
   apply X_consP
   apply S_ret
   apply E_sub
   apply E_sub
   apply E_la ok
   exact rfl
   ·(with_reducible repeat' first | assumption | exact get_new _ _ | apply get_put | apply get_old | refine get_nf (by assumption) ?_ | apply get_kd | with_unfolding_all rfl)
   exact tA hG rfl
   exact rfl
   apply E_neg
   apply E_int
   apply k_in
   refine k_it (I_last (v := .ref x.r) hr (by rw [List.getLast?_map, e]; rfl)) ?_
   apply E_int
   refine k_it (I_tuple (j := 0) rx rfl (lb rfl)) ?_
   apply hQ
   exact ⟨rfl, rfl⟩
 obtain ⟨_, _, h, rfl, rfl⟩ := this
 exact h
theorem log_add {cl : Nat} {chs : List (Nat × Ch)} {rev tick : Int} (hl : T.get lg = some (logOb lr sp)) (hr : T.get lr = some (.list (rows.map Rn.rf))) (rn : ∀ x ∈ rows, RnAt T x) (sz : rows.length < 50) (hc : T.get cl = some (.list (chs.map cRf))) (hch : ∀ y ∈ chs, ChAt T y.1 y.2) (sc : chs.length < 60) (hrev : rev = lastR rows + 1) (l1 : 1 ≤ lr) : CaP c T 300 [.ref lg, .int rev, .int tick, .ref cl] (d + 2) fun v T' => v = .none ∧ ∃ x : Rn, x.rev = rev ∧ x.chs = chs ∧ T'.get lr = some (.list ((rows ++ [x]).map Rn.rf)) ∧ RnAt T' x ∧ Upd T.n (But lr) T T' := by
 have h1 := log_last ok hG (d := d) hl hr rn sz
 refine C_funQ ok (l := [(1735222900, _), (8030035183836554867, _), (1818520181, _), (32763696029788516, _)]) (tF hG rfl) rfl fun Qz hQ => ?_
 apply X_consP
 apply S_if
 apply T_cmpP
 refine E_loc rfl ?_
 apply E_bin
 apply E_lm ok
 exact rfl
 ·(with_reducible repeat' first | assumption | exact get_new _ _ | apply get_put | apply get_old | refine get_nf (by assumption) ?_ | apply get_kd | with_unfolding_all rfl)
 exact tM hG rfl
 exact rfl
 apply Es_nil
 refine k_ca (h1) ?_
 apply E_int
 refine k_bi (B_addI) ?_
 refine k_cm false (C_ne (t := true) (congrArg some (decide_eq_true hrev))) ?_
 apply X_nilP
 apply X_consP
 apply S_expr
 apply E_methB
 apply E_la ok
 exact rfl
 ·(with_reducible repeat' first | assumption | exact get_new _ _ | apply get_put | apply get_old | refine get_nf (by assumption) ?_ | apply get_kd | with_unfolding_all rfl)
 exact tA hG rfl
 exact rfl
 refine k_bg ((G_append (by (with_reducible repeat' first | assumption | exact get_new _ _ | apply get_put | apply get_old | refine get_nf (by assumption) ?_ | apply get_kd | with_unfolding_all rfl)))) ?_
 apply Es_cons
 apply E_tuple
 refine Es_loc rfl ?_
 refine Es_loc rfl ?_
 apply Es_cons
 refine E_callB ok (tG hG rfl) (by first | exact .inl ⟨_, rfl⟩ | exact .inr ⟨_, rfl⟩) ?_
 refine Es_loc rfl ?_
 apply Es_nil
 refine k_bc (B_tupleL hc (by rw [List.length_map]; exact Nat.lt_trans sc (lb rfl))) ?_
 apply Es_nil
 refine k_sh (lb rfl) ?_
 apply Es_nil
 refine k_bm (M_append (by (with_reducible repeat' first | assumption | exact get_new _ _ | apply get_put | apply get_old | refine get_nf (by assumption) ?_ | apply get_kd | with_unfolding_all rfl)) (by rw [List.length_map]; exact Nat.lt_trans sz (lb rfl)) l1) ?_
 apply X_nilP
 apply hQ
 have hr2 : (hnew (hnew T (.tuple (chs.map cRf))) (.tuple [.int rev, .int tick, .ref T.n])).get lr = some (.list (rows.map Rn.rf)) := get_old (get_old hr)
 have u2 : Upd T.n (But lr) T (hput (hnew (hnew T (.tuple (chs.map cRf))) (.tuple [.int rev, .int tick, .ref T.n])) lr (.list (rows.map Rn.rf ++ [.ref (hnew T (.tuple (chs.map cRf))).n]))) := Upd.refl.new.new.set (fun _ k => k rfl) hr
 refine ⟨rfl, ⟨(hnew T (.tuple (chs.map cRf))).n, rev, tick, T.n, chs⟩, rfl, rfl, ?_, ⟨get_kd hr2 (get_new _ _) rfl, get_kd hr2 (get_old (get_new _ _)) rfl, fun y m => (hch y m).upd u2 fun x vs g => ne_kd hr g rfl⟩, u2⟩
 rw [List.map_append]; exact get_put hr2
theorem publish_ok {t cl : Nat} {chs : List (Nat × Ch)} (hs : T.get s = some sf.ob) (p1 : 1 ≤ s) (hl : T.get sf.log = some (logOb lr sp)) (hr : T.get lr = some (.list (rows.map Rn.rf))) (rn : ∀ x ∈ rows, RnAt T x) (sz : rows.length < 50) (hc : T.get cl = some (.list (chs.map cRf))) (hch : ∀ y ∈ chs, ChAt T y.1 y.2) (sc : chs.length < 60) (hrev : lastR rows = sf.rev) (l1 : 1 ≤ lr) (hw : T.get sf.wat = some (.dict [] 0)) : CaP c T 580 [.ref s, .ref t, .ref cl] (d + 3) fun v T' => v = .none ∧ T'.get s = some (SF.ob { sf with tree := t, rev := sf.rev + 1 }) ∧ ∃ x : Rn, x.rev = sf.rev + 1 ∧ x.chs = chs ∧ T'.get lr = some (.list ((rows ++ [x]).map Rn.rf)) ∧ RnAt T' x ∧ Upd T.n (fun r _ => r ≠ s ∧ r ≠ lr) T T' := by
 have hs1 : (hput T s (SF.ob { sf with rev := sf.rev + 1 })).get s = some (SF.ob { sf with rev := sf.rev + 1 }) := get_put hs
 have u1 : Upd T.n (But s) T (hput (hput T s (SF.ob { sf with rev := sf.rev + 1 })) s (SF.ob { sf with tree := t, rev := sf.rev + 1 })) := (Upd.refl.set (fun _ k => k rfl) hs).set (fun _ k => k rfl) hs
 have kp : ∀ {x : Nat} {vs : List AV}, T.get x = some (.tuple vs) → x ≠ s := fun g => ne_kd hs g rfl
 obtain ⟨_, T2, h2, rfl, x, e1, e2, g2, r2, u2⟩ := log_add ok hG (d := d) (rows := rows) (rev := sf.rev + 1) (tick := sf.tick) (u1.get (ne_kd hs hl rfl) hl) (u1.get (ne_kd hs hr rfl) hr) (fun x m => (rn x m).upd u1 fun _ _ g => kp g) sz (u1.get (ne_kd hs hc rfl) hc) (fun y m => (hch y m).upd u1 fun _ _ g => kp g) sc (by rw [hrev]) l1
 have hs2 : T2.get s = some (SF.ob { sf with tree := t, rev := sf.rev + 1 }) := u2.get (ne_kd (u1.get (ne_kd hs hr rfl) hr) (get_put hs1) rfl) (get_put hs1)
 have hw2 : T2.get sf.wat = some (.dict [] 0) := u2.get (ne_kd (u1.get (ne_kd hs hr rfl) hr) (u1.get (ne_kd hs hw rfl) hw) rfl) (u1.get (ne_kd hs hw rfl) hw)
 have hl1 := u1.get (ne_kd hs hl rfl) hl
 refine C_funQ ok (l := [(1735222900, _), (1717990261, _), (32763696029788516, _)]) (tF hG rfl) rfl fun Qz hQ => ?_
 apply X_consP
 apply S_asg
 apply E_la ok
 exact rfl
 ·(with_reducible repeat' first | assumption | exact get_new _ _ | apply get_put | apply get_old | refine get_nf (by assumption) ?_ | apply get_kd | with_unfolding_all rfl)
 exact tA hG rfl
 exact rfl
 apply X_consP
 apply S_asgL ok
 apply E_bin
 apply E_la ok
 exact rfl
 ·(with_reducible repeat' first | assumption | exact get_new _ _ | apply get_put | apply get_old | refine get_nf (by assumption) ?_ | apply get_kd | with_unfolding_all rfl)
 exact tA hG rfl
 exact rfl
 apply E_int
 refine k_bi (B_addI) ?_
 apply k_al
 exact rfl
 ·(with_reducible repeat' first | assumption | exact get_new _ _ | apply get_put | apply get_old | refine get_nf (by assumption) ?_ | apply get_kd | with_unfolding_all rfl)
 exact tA hG rfl
 exact lb rfl
 first | assumption | exact Nat.le_add_left 1 _ | exact lb rfl
 apply X_consP
 apply S_asgL ok
 refine E_loc rfl ?_
 apply k_al
 exact rfl
 ·(with_reducible repeat' first | assumption | exact get_new _ _ | apply get_put | apply get_old | refine get_nf (by assumption) ?_ | apply get_kd | with_unfolding_all rfl)
 exact tA hG rfl
 exact lb rfl
 first | assumption | exact Nat.le_add_left 1 _ | exact lb rfl
 apply X_consP
 apply S_expr
 apply E_meth ok
 apply E_la ok
 exact rfl
 ·(with_reducible repeat' first | assumption | exact get_new _ _ | apply get_put | apply get_old | refine get_nf (by assumption) ?_ | apply get_kd | with_unfolding_all rfl)
 exact tA hG rfl
 exact rfl
 apply k_mt2
 ·(with_reducible repeat' first | assumption | exact get_new _ _ | apply get_put | apply get_old | refine get_nf (by assumption) ?_ | apply get_kd | with_unfolding_all rfl)
 exact tM hG rfl
 exact rfl
 apply Es_cons
 apply E_la ok
 exact rfl
 ·(with_reducible repeat' first | assumption | exact get_new _ _ | apply get_put | apply get_old | refine get_nf (by assumption) ?_ | apply get_kd | with_unfolding_all rfl)
 exact tA hG rfl
 exact rfl
 apply Es_cons
 apply E_la ok
 exact rfl
 ·(with_reducible repeat' first | assumption | exact get_new _ _ | apply get_put | apply get_old | refine get_nf (by assumption) ?_ | apply get_kd | with_unfolding_all rfl)
 exact tA hG rfl
 exact rfl
 refine Es_loc rfl ?_
 apply Es_nil
 refine k_ca (h2) ?_
 apply X_consP
 apply S_for
 refine E_callB ok (tG hG rfl) (by first | exact .inl ⟨_, rfl⟩ | exact .inr ⟨_, rfl⟩) ?_
 apply Es_cons
 apply E_la ok
 exact rfl
 ·(with_reducible repeat' first | assumption | exact get_new _ _ | apply get_put | apply get_old | refine get_nf (by assumption) ?_ | apply get_kd | with_unfolding_all rfl)
 exact tA hG rfl
 exact rfl
 apply Es_nil
 refine k_bc (B_sortS (l := []) (m := []) (Its_dict hw2 (lb rfl)) (lb rfl) (List.Perm.refl _) List.Pairwise.nil) ?_
 refine k_ik (ikL (get_new _ _)) ?_
 refine L_endP (turnL (get_new _ _) rfl) ?_
 apply X_consP
 apply S_if
 apply T_andP
 apply Ts_stopP
 apply T_cmpP
 apply E_la ok
 exact rfl
 ·(with_reducible repeat' first | assumption | exact get_new _ _ | apply get_put | apply get_old | refine get_nf (by assumption) ?_ | apply get_kd | with_unfolding_all rfl)
 exact tA hG rfl
 exact rfl
 apply E_none
 refine k_cm false (by first | exact C_isnt0 | exact C_isnt1 rfl | exact C_isntT) ?_
 apply k_ye
 apply X_nilP
 apply X_nilP
 apply hQ
 refine ⟨rfl, get_old hs2, x, e1, e2, get_old g2, r2.upd (P := All) Upd.refl.new fun _ _ _ => trivial, ?_⟩
 exact ((u1.weak (Nat.le_refl _) fun _ _ p => p.1).then (u2.weak (Nat.le_refl _) fun _ _ p => p.2) u1.1).new
end
noncomputable def chE (rev : Int) (es : Es) (chs : List (Nat × Ch)) : Es := chs.foldl (fun e y => appE rev e y.2) es
noncomputable def okChs (rev : Int) (es : Es) : List (Nat × Ch) → Prop
 | [] => True
 | y :: l => okC es y.2 ∧ okChs rev (appE rev es y.2) l
noncomputable def Rep (es : Es) : List Rn → Es → Prop
 | [], es' => es = es'
 | x :: l, es' => okChs x.rev es x.chs ∧ 0 < x.rev ∧ Rep (chE x.rev es x.chs) l es'
theorem Rep.snoc {x : Rn} {es' : Es} {rows : List Rn} : ∀ {es : Es}, Rep es rows es' → okChs x.rev es' x.chs → 0 < x.rev → Rep es (rows ++ [x]) (chE x.rev es' x.chs) := by
 induction rows with
 | nil => intro es h h2 h3; cases h; exact ⟨h2, h3, rfl⟩
 | cons y rows ih => intro es h h2 h3; exact ⟨h.1, h.2.1, ih h.2.2 h2 h3⟩
noncomputable abbrev es00 : Es := [([47], root0)]
noncomputable abbrev snOb (st : Nat) : AO := .inst 275 [(8030035183836554867, .int 0), (1717990261, .ref st)]
structure StoreAt (T : Hp) (s lr sp st : Nat) (sf : SF) (rows : List Rn) (es : Es) : Prop where
 hs : T.get s = some sf.ob
 ps : 1 ≤ s
 hl : T.get sf.log = some (logOb lr sp)
 hr : T.get lr = some (.list (rows.map Rn.rf))
 pl : 1 ≤ lr
 rn : ∀ x ∈ rows, RnAt T x
 hp : T.get sp = some (snOb st)
 ts : TreeAt T 1 st es00
 tr : TreeAt T 1 sf.tree es
 wat : T.get sf.wat = some (.dict [] 0)
 lea : T.get sf.lea = some (.dict [] 0)
 rep : Rep es00 rows es
 lst : lastR rows = sf.rev
 pos : 0 ≤ sf.rev
noncomputable def KS (s lr x : Nat) : Nat → AO → Prop := fun r _ => r ≠ s ∧ r ≠ lr ∧ r ≠ x
theorem TreeAt.weak {T : Hp} {lo t : Nat} {es : Es} (h : TreeAt T lo t es) (l : 1 ≤ lo) : TreeAt T 1 t es :=
 let ⟨dr, ep, xs, t3, hx⟩ := h
 ⟨dr, ep, xs, { t3 with lt := Nat.le_trans l t3.lt, ld := Nat.le_trans l t3.ld, le := fun x m => Nat.le_trans l (t3.le x m) }, hx⟩
theorem TreeAt.keep {T T' : Hp} {P : Nat → AO → Prop} {lo t : Nat} {es : Es} (h : TreeAt T lo t es) (u : Upd T.n P T T') (k : ∀ r a, T.get r = some a → (Nat.beq (kd a) (254 + 6) || Nat.beq (kd a) 0 || Nat.beq (kd a) (178 + 6)) = true → P r a) : TreeAt T' lo t es :=
 let ⟨dr, ep, xs, t3, hx⟩ := h
 ⟨dr, ep, xs, { t3 with ht := u.get (k _ _ t3.ht rfl) t3.ht, hd := u.get (k _ _ t3.hd rfl) t3.hd, he := fun x m => u.get (k _ _ (t3.he x m) rfl) (t3.he x m) }, hx⟩
theorem kd_ne {T : Hp} {r x : Nat} {a b : AO} (h : T.get r = some a) (g : T.get x = some b) (q : (Nat.beq (kd b) (254 + 6) || Nat.beq (kd b) 0 || Nat.beq (kd b) (178 + 6)) = true) (q2 : (Nat.beq (kd a) (254 + 6) || Nat.beq (kd a) 0 || Nat.beq (kd a) (178 + 6)) = false) : x ≠ r := by
 rintro rfl
 rw [h] at g; cases g
 rw [q] at q2; cases q2
section
variable {c : Cx} (ok : Ok c) (hG : c.G = G) {d s lr sp st : Nat} {T : Hp} {es : Es} {sf : SF} {rows : List Rn}
include ok hG
theorem alone_ok {x : Sn} {ss : List Sn} {ep so : Nat} {w p : List Nat} {tl : List AV} {ans : AV} {ch : Ch} (X : StoreAt T s lr sp st sf rows es) (sz : rows.length < 49) (se : SesAt T sf.ses ep ss) (mx : x ∈ ss) (hstp : StepS c (d + 8) s x.num x.u sf es (.str w :: .str p :: tl) ans ch) (hk : okC es ch) (hw : stepsT.any (sq · (.str w)) = true) (htl : tl.length ≤ 8) (hst : T.get so = some (.tuple (.str w :: .str p :: tl))) (hn : 1 ≤ T.n) :
  CaP c T 646 [.ref s, .int x.num, .ref so] (d + 10) fun v T' => v = ans ∧ ∃ (sf' : SF) (row : Rn), StoreAt T' s lr sp st sf' (rows ++ [row]) (appE (sf.rev + 1) es ch) ∧ sf'.ses = sf.ses ∧ sf'.rev = sf.rev + 1 ∧ sf'.tick = sf.tick ∧ sf'.cnt = sf.cnt ∧ SesAt T' sf.ses ep ss ∧ Upd T.n (KS s lr x.r) T T' := by
 obtain ⟨_, T1, h1, rt, t, cl, al, cr, rfl, g1, tr1, gc, hcr, ga, u1, lc, gx1⟩ := steps_ok ok hG (d := d) (T := hnew T (.list [.ref so])) (sl := T.n) (get_old X.hs) ⟨get_old se.hd, fun y m => ⟨(se.he y m).1, let ⟨h, g⟩ := (se.he y m).2; ⟨h, get_old g⟩⟩, se.nd⟩ mx (X.tr.all Upd.refl.new) hstp hw htl (get_old hst) (get_new _ _) (Nat.le_succ_of_le hn)
 obtain ⟨px, hh, gx⟩ := se.he x mx
 have u01 : Upd T.n (But x.r) T T1 := Upd.refl.new.then u1 (Nat.le_succ _)
 have hs1 := u01.get (ne_kd gx X.hs rfl) X.hs
 have hr1 := u01.get (ne_kd gx X.hr rfl) X.hr
 have kt : ∀ y vs, T.get y = some (.tuple vs) → But x.r y (.tuple vs) := fun y vs g => ne_kd gx g rfl
 obtain ⟨_, T2, h2, rfl, gs2, row, e1, e2, g2, r2, u2⟩ := publish_ok ok hG (d := d + 6) (rows := rows) (t := t) (cl := cl) (chs := [(cr, ch)]) hs1 X.ps (u01.get (ne_kd gx X.hl rfl) X.hl) hr1 (fun y m => (X.rn y m).upd u01 kt) (Nat.lt_succ_of_lt sz) gc (fun y m => by cases List.mem_singleton.mp m; exact hcr) (lb rfl) X.lst X.pl (u01.get (ne_kd gx X.wat rfl) X.wat)
 have ga2 := u2.get ⟨ne_kd hs1 ga rfl, Nat.ne_of_gt (Nat.lt_of_lt_of_le (lt_of_get X.hr) (Nat.le_trans (Nat.le_succ _) lc))⟩ ga
 have hs := X.hs
 refine C_funQ ok (l := [(1735222900, _), (126883592042095, _), (1902540148, _)]) (tF hG rfl) rfl fun Qz hQ => ?_
 apply X_consP
 apply S_asgT
 apply E_lm ok
 exact rfl
 ·(with_reducible repeat' first | assumption | exact get_new _ _ | apply get_put | apply get_old | refine get_nf (by assumption) ?_ | apply get_kd | with_unfolding_all rfl)
 exact tM hG rfl
 exact rfl
 refine Es_loc rfl ?_
 apply Es_cons
 apply E_list
 refine Es_loc rfl ?_
 apply Es_nil
 refine k_sh (lb rfl) ?_
 apply Es_cons
 apply E_bool
 apply Es_nil
 refine k_ca (h1) ?_
 refine k_tu (.inl g1) rfl ?_
 apply X_consP
 apply S_expr
 apply E_lm ok
 exact rfl
 ·(with_reducible repeat' first | assumption | exact get_new _ _ | apply get_put | apply get_old | refine get_nf (by assumption) ?_ | apply get_kd | with_unfolding_all rfl)
 exact tM hG rfl
 exact rfl
 refine Es_loc rfl ?_
 refine Es_loc rfl ?_
 apply Es_nil
 refine k_ca (h2) ?_
 apply X_consP
 apply S_ret
 apply E_sub
 refine E_loc rfl ?_
 apply E_int
 refine k_it (I_list (j := 0) ga2 rfl (lb rfl)) ?_
 apply hQ
 have u02 : Upd T.n (KS s lr x.r) T T2 := (u01.weak (Nat.le_refl _) fun _ _ p => p.2.2).then (u2.weak (Nat.le_refl _) fun _ _ p => ⟨p.1, p.2.1⟩) u01.1
 have kt2 : ∀ y vs, T.get y = some (.tuple vs) → KS s lr x.r y (.tuple vs) := fun y vs g => ⟨ne_kd X.hs g rfl, ne_kd X.hr g rfl, ne_kd gx g rfl⟩
 have tk : ∀ r a, T.get r = some a → (Nat.beq (kd a) (254 + 6) || Nat.beq (kd a) 0 || Nat.beq (kd a) (178 + 6)) = true → KS s lr x.r r a := fun r a g q => ⟨kd_ne X.hs g q rfl, kd_ne X.hr g q rfl, kd_ne gx g q rfl⟩
 have gl : ∀ {r : Nat} {a : AO}, T.get r = some a → Nat.beq (kd sf.ob) (kd a) = false → Nat.beq 1 (kd a) = false → Nat.beq (kd (x.ob hh)) (kd a) = false → T2.get r = some a := fun g q1 q2 q3 => u02.get ⟨ne_kd X.hs g q1, ne_kd X.hr g q2, ne_kd gx g q3⟩ g
 have gx2 : T2.get x.r = some (x.ob sf.tick) := u2.get ⟨ne_kd hs1 gx1 rfl, ne_kd hr1 gx1 rfl⟩ gx1
 refine ⟨rfl, _, row, ⟨gs2, X.ps, gl X.hl rfl rfl rfl, g2, X.pl, fun y m => ?_, gl X.hp rfl rfl rfl, X.ts.keep u02 tk, ?_, gl X.wat rfl rfl rfl, gl X.lea rfl rfl rfl, ?_, ?_, ?_⟩, rfl, rfl, rfl, rfl, ⟨gl se.hd rfl rfl rfl, fun y m => ?_, se.nd⟩, u02⟩
 ·rcases List.mem_append.mp m with m | m
  ·exact (X.rn y m).upd u02 kt2
  ·cases List.mem_singleton.mp m; exact r2
 ·exact (tr1.weak (Nat.le_succ_of_le hn)).keep u2 fun r a g q => ⟨kd_ne hs1 g q rfl, kd_ne hr1 g q rfl⟩
 ·have := X.rep.snoc (x := row) (by rw [e2]; exact ⟨hk, trivial⟩) (by rw [e1]; exact Int.lt_add_one_of_le X.pos)
  rw [e2, e1] at this; exact this
 ·rw [lastR_snoc]; exact e1
 ·exact Int.le_add_one X.pos
 ·refine ⟨(se.he y m).1, ?_⟩
  obtain ⟨h, g⟩ := (se.he y m).2
  by_cases e : y.r = x.r
  ·refine ⟨sf.tick, ?_⟩
   rw [e] at g ⊢
   rw [gx] at g
   cases y; cases x
   cases g
   exact gx2
  ·exact ⟨h, u02.get ⟨ne_kd X.hs g rfl, ne_kd X.hr g rfl, e⟩ g⟩
end
theorem KT.low {n lo : Nat} {T T' : Hp} (u : Upd n (KT lo) T T') (h : lo ≤ n) : Upd lo All T T' := ⟨u.1, fun r a q _ g => u.2 r a (Nat.lt_of_lt_of_le q h) (.inl q) g⟩
noncomputable abbrev agB : PSs := .cons (.expr (.meth (.loc 1717990261) 525822161250 (.cons (.loc 8030035183836554867) (.cons (.loc 112598731352420) .nil)))) .nil
noncomputable abbrev agR : PSs := .cons (.ite (.cmp .gt (.loc 8030035183836554867) (.attr (.attr (.loc 1735222900) 8462379648668561268) 8030035183836554867)) (.cons (.for1 [112598731352420] (.loc 32763696029788516) agB) .nil) .nil) .nil
section
variable {c : Cx} (ok : Ok c) (hG : c.G = G) {d s lr sp st lg t : Nat} {T T0 : Hp} {es : Es} {sf : SF} {rows : List Rn}
include ok hG
theorem create_ok {x : Sn} {ss : List Sn} {ep k : Nat} {p data q : List Nat} {num van : Bool} {args : List AV} (hb : binds f_Store_create.params args (f_Store_create.dfl.drop (args.length - (f_Store_create.params.length - f_Store_create.dfl.length))) (f_Store_create.params.length - f_Store_create.dfl.length) = some [(1735222900, .ref s), (126883592042095, .int x.num), (1769300593, .str p), (1651860069, .str data), (115948722807415, .bool van), (7306654329047250543, .bool num), (440039269997, .none), (128047628446323, .none)]) (X : StoreAt T s lr sp st sf rows es) (sz : rows.length < 49) (se : SesAt T sf.ses ep ss) (mx : x ∈ ss) (hp : OkP p) (ne : p ≠ [47]) (rc : Rch es (parL p)) (hu : x.u ≠ [42]) (hq : NumOf es num p q k) (hvn : van = num) (h : okC es (crC q data van num x.num)) (hn : 1 ≤ T.n) :
  CaP c T 623 args (d + 12) fun v T' => v = .str q ∧ ∃ (sf' : SF) (row : Rn), StoreAt T' s lr sp st sf' (rows ++ [row]) (appE (sf.rev + 1) es (crC q data van num x.num)) ∧ sf'.ses = sf.ses ∧ sf'.rev = sf.rev + 1 ∧ sf'.tick = sf.tick ∧ sf'.cnt = sf.cnt ∧ SesAt T' sf.ses ep ss ∧ Upd T.n (KS s lr x.r) T T' := by
 have un : Upd T.n All T (hnew T (.tuple [.str [99, 114, 101, 97, 116, 101], .str p, .str data, .bool van, .bool num, .none, .none])) := Upd.refl.new
 have hs := X.hs
 refine C_funQ ok (tF hG rfl) hb fun Q hQ => ?_
 apply X_consP
 apply S_ret
 apply E_lm ok
 exact rfl
 ·(with_reducible repeat' first | assumption | exact get_new _ _ | apply get_put | apply get_old | refine get_nf (by assumption) ?_ | apply get_kd | with_unfolding_all rfl)
 exact tM hG rfl
 exact rfl
 refine Es_loc rfl ?_
 apply Es_cons
 apply E_tuple
 apply Es_cons
 apply E_str
 refine Es_loc rfl ?_
 refine Es_loc rfl ?_
 refine Es_loc rfl ?_
 refine Es_loc rfl ?_
 refine Es_loc rfl ?_
 refine Es_loc rfl ?_
 apply Es_nil
 refine k_sh (lb rfl) ?_
 apply Es_nil
 refine CaP.imp (alone_ok ok hG (d := d + 1) ⟨get_old X.hs, X.ps, get_old X.hl, get_old X.hr, X.pl, fun y m => (X.rn y m).upd un fun _ _ _ => trivial, get_old X.hp, X.ts.all un, X.tr.all un, get_old X.wat, get_old X.lea, X.rep, X.lst, X.pos⟩ sz ⟨get_old se.hd, fun y m => ⟨(se.he y m).1, let ⟨h, g⟩ := (se.he y m).2; ⟨h, get_old g⟩⟩, se.nd⟩ mx (step_create ok hG hp ne rc hu hq hvn h) h rfl (lb rfl) (get_new _ _) (Nat.le_succ_of_le hn)) ?_
 rintro _ T9 ⟨rfl, sf', row, r1, r2, r3, r4, r5, r6, r7⟩
 apply hQ
 exact ⟨rfl, sf', row, r1, r2, r3, r4, r5, r6, un.a.then r7 (Nat.le_succ _)⟩
theorem delete_ok {x : Sn} {ss : List Sn} {ep : Nat} {p : List Nat} {e : En} (X : StoreAt T s lr sp st sf rows es) (sz : rows.length < 49) (se : SesAt T sf.ses ep ss) (mx : x ∈ ss) (hp : OkP p) (rc : Rch es p) (hu : x.u ≠ [42]) (m : (p, e) ∈ es) (hv : e.ver ≠ -1) (h : okC es (.delete p)) (hn : 1 ≤ T.n) :
  CaP c T 639 [.ref s, .int x.num, .str p] (d + 12) fun v T' => v = .none ∧ ∃ (sf' : SF) (row : Rn), StoreAt T' s lr sp st sf' (rows ++ [row]) (appE (sf.rev + 1) es (.delete p)) ∧ sf'.ses = sf.ses ∧ sf'.rev = sf.rev + 1 ∧ sf'.tick = sf.tick ∧ sf'.cnt = sf.cnt ∧ SesAt T' sf.ses ep ss ∧ Upd T.n (KS s lr x.r) T T' := by
 have un : Upd T.n All T (hnew T (.tuple [.str [100, 101, 108, 101, 116, 101], .str p, .none])) := Upd.refl.new
 have hs := X.hs
 refine C_funQ ok (l := [(1735222900, _), (126883592042095, _), (1769300593, _), (31367324937447031, _)]) (tF hG rfl) rfl fun Qz hQ => ?_
 apply X_consP
 apply S_ret
 apply E_lm ok
 exact rfl
 ·(with_reducible repeat' first | assumption | exact get_new _ _ | apply get_put | apply get_old | refine get_nf (by assumption) ?_ | apply get_kd | with_unfolding_all rfl)
 exact tM hG rfl
 exact rfl
 refine Es_loc rfl ?_
 apply Es_cons
 apply E_tuple
 apply Es_cons
 apply E_str
 refine Es_loc rfl ?_
 refine Es_loc rfl ?_
 apply Es_nil
 refine k_sh (lb rfl) ?_
 apply Es_nil
 refine CaP.imp (alone_ok ok hG (d := d + 1) ⟨get_old X.hs, X.ps, get_old X.hl, get_old X.hr, X.pl, fun y m => (X.rn y m).upd un fun _ _ _ => trivial, get_old X.hp, X.ts.all un, X.tr.all un, get_old X.wat, get_old X.lea, X.rep, X.lst, X.pos⟩ sz ⟨get_old se.hd, fun y m => ⟨(se.he y m).1, let ⟨h, g⟩ := (se.he y m).2; ⟨h, get_old g⟩⟩, se.nd⟩ mx (step_delete ok hG (d := d + 1) hp rc hu m hv h) h rfl (lb rfl) (get_new _ _) (Nat.le_succ_of_le hn)) ?_
 rintro _ T9 ⟨rfl, sf', row, r1, r2, r3, r4, r5, r6, r7⟩
 apply hQ
 exact ⟨rfl, sf', row, r1, r2, r3, r4, r5, r6, un.a.then r7 (Nat.le_succ _)⟩
theorem again_in {cs : Nat} {chs : List (Nat × Ch)} {rev : Int} (n0 : 1 ≤ T0.n) (hcs : T0.get cs = some (.tuple (chs.map cRf))) (hch : ∀ y ∈ chs, ChAt T0 y.1 y.2) (l : List (Nat × Ch)) : ∀ (pr : List (Nat × Ch)) (T : Hp) (loc : Loc) (es : Es), chs = pr ++ l → Upd T0.n All T0 T → TreeAt T T0.n t es → okChs rev es l → lk loc 1717990261 = some (.ref t) → lk loc 8030035183836554867 = some (.int rev) →
  ∃ loc' T', Lo c [112598731352420] cs .tuple pr.length agB (d + 5) loc T (.nxt loc') T' ∧ Upd T0.n All T0 T' ∧ TreeAt T' T0.n t (chE rev es l) ∧ lk loc' 1717990261 = some (.ref t) ∧ lk loc' 1735222900 = lk loc 1735222900 := by
 induction l with
 | nil =>
  intro pr T loc es hx u tr hk h1 h2
  rw [List.append_nil] at hx; subst hx
  exact ⟨_, _, L_end (turnT (u.get trivial hcs) (get_end _ _)), u, tr, h1, rfl⟩
 | cons y l ih =>
  intro pr T loc es hx u tr hk h1 h2
  have my : y ∈ chs := hx ▸ List.mem_append_right _ (.head _)
  obtain ⟨_, T1, ha, rfl, tr1, u1⟩ := apply_ok ok hG (d := d) (rev := rev) tr ((hch y my).upd (P := All) u fun _ _ _ => trivial) hk.1 u.1 n0
  have u2 : Upd T0.n All T0 T1 := u.trans (KT.low u1 u.1)
  obtain ⟨loc', T', w, a1, a2, a3, a4⟩ := ih (pr ++ [y]) T1 (pt loc 112598731352420 (.ref y.1)) _ (by rw [hx, List.append_assoc]; rfl) u2 tr1 hk.2 (by rw [lk_pt, if_neg (by decide)]; exact h1) (by rw [lk_pt, if_neg (by decide)]; exact h2)
  rw [List.length_append] at w
  obtain ⟨dr, ep, xs, t3, hx3⟩ := id tr
  have : ExP c (d + 5) (pt loc 112598731352420 (.ref y.1)) T agB (fun l T2 => l = pt loc 112598731352420 (.ref y.1) ∧ T2 = T1) (fun _ _ => False) := by
   apply X_consP; apply S_expr
   refine E_lm ok (by rw [lk_pt, if_neg (by decide)]; exact h1) t3.ht (tM hG rfl) rfl ?_
   refine Es_loc (by rw [lk_pt, if_neg (by decide)]; exact h2) ?_
   refine Es_loc (by rw [lk_pt, if_pos rfl]) ?_
   apply Es_nil
   refine k_ca ha ?_
   apply X_nilP
   exact ⟨rfl, rfl⟩
  obtain ⟨_, _, hb, rfl, rfl⟩ | ⟨_, _, _, f⟩ := this
  ·exact ⟨loc', T', L_next (turnT (u.get trivial hcs) (by rw [hx]; exact get_mid _ _ _ _)) bind_one hb w, a1, a2, a3, by rw [a4, lk_pt, if_neg (by decide)]⟩
  ·exact f.elim
theorem again_out {es' : Es} (n0 : 1 ≤ T0.n) (hl : T0.get lg = some (logOb lr sp)) (hr : T0.get lr = some (.list (rows.map Rn.rf))) (rn : ∀ x ∈ rows, RnAt T0 x) (hp : T0.get sp = some (snOb st)) (l : List Rn) : ∀ (pr : List Rn) (T : Hp) (loc : Loc) (es : Es), rows = pr ++ l → Upd T0.n All T0 T → TreeAt T T0.n t es → Rep es l es' → lk loc 1717990261 = some (.ref t) → lk loc 1735222900 = some (.ref lg) →
  ∃ loc' T', Lo c [8030035183836554867, 1818520181, 32763696029788516] lr .list pr.length agR (d + 5) loc T (.nxt loc') T' ∧ Upd T0.n All T0 T' ∧ TreeAt T' T0.n t es' ∧ lk loc' 1717990261 = some (.ref t) := by
 induction l with
 | nil =>
  intro pr T loc es hx u tr hk h1 h2
  rw [List.append_nil] at hx; subst hx
  cases hk
  exact ⟨_, _, L_end (turnL (u.get trivial hr) (get_end _ _)), u, tr, h1⟩
 | cons x l ih =>
  intro pr T loc es hx u tr hk h1 h2
  have mx : x ∈ rows := hx ▸ List.mem_append_right _ (.head _)
  have rx := rn x mx
  have kl : ∀ k, k ≠ 8030035183836554867 → k ≠ 1818520181 → k ≠ 32763696029788516 → lk (pt (pt (pt loc 8030035183836554867 (.int x.rev)) 1818520181 (.int x.tick)) 32763696029788516 (.ref x.cs)) k = lk loc k := fun k q1 q2 q3 => by rw [lk_pt, if_neg q3, lk_pt, if_neg q2, lk_pt, if_neg q1]
  have k1 := (kl 1717990261 (by decide) (by decide) (by decide)).trans h1
  have k2 := (kl 1735222900 (by decide) (by decide) (by decide)).trans h2
  have k3 : lk (pt (pt (pt loc 8030035183836554867 (.int x.rev)) 1818520181 (.int x.tick)) 32763696029788516 (.ref x.cs)) 8030035183836554867 = some (.int x.rev) := by rw [lk_pt, if_neg (by decide), lk_pt, if_neg (by decide), lk_pt, if_pos rfl]
  have k4 : lk (pt (pt (pt loc 8030035183836554867 (.int x.rev)) 1818520181 (.int x.tick)) 32763696029788516 (.ref x.cs)) 32763696029788516 = some (.ref x.cs) := by rw [lk_pt, if_pos rfl]
  obtain ⟨loc1, T1, w1, u1, tr1, b1, b2⟩ := again_in ok hG (d := d) (rev := x.rev) n0 rx.h2 rx.h3 x.chs [] T _ es rfl u tr hk.1 k1 k3
  obtain ⟨loc', T', w, a1, a2, a3⟩ := ih (pr ++ [x]) T1 loc1 _ (by rw [hx, List.append_assoc]; rfl) u1 tr1 hk.2.2 b1 (b2.trans k2)
  rw [List.length_append] at w
  have : ExP c (d + 5) (pt (pt (pt loc 8030035183836554867 (.int x.rev)) 1818520181 (.int x.tick)) 32763696029788516 (.ref x.cs)) T agR (fun l T2 => l = loc1 ∧ T2 = T1) (fun _ _ => False) := by
   apply X_consP; apply S_if; apply T_cmpP
   refine E_loc k3 ?_
   apply E_attr ok
   refine E_la ok k2 (u.get trivial hl) (tA hG rfl) rfl ?_
   refine k_at2 (u.get trivial hp) (tA hG rfl) rfl ?_
   refine k_cm true (cmt C_gt (decide_eq_true hk.2.1)) ?_
   apply X_consP; apply S_for
   refine E_loc k4 ?_
   refine k_ik (ikT (u.get trivial rx.h2)) ?_
   refine k_lo w1 ?_
   apply X_nilP; apply X_nilP
   exact ⟨rfl, rfl⟩
  obtain ⟨_, _, hb, rfl, rfl⟩ | ⟨_, _, _, f⟩ := this
  ·exact ⟨loc', T', L_next (turnL (u.get trivial hr) (by rw [hx]; exact get_mid _ _ _ _)) (.inr ⟨lb rfl, _, _, rfl, .inl (u.get trivial rx.h1), rfl⟩) hb w, a1, a2, a3⟩
  ·exact f.elim
theorem again_ok (X : StoreAt T s lr sp st sf rows es) (hn : 1 ≤ T.n) : CaP c T 724 [.ref s] (d + 7) fun v T' => ∃ t, v = .ref t ∧ TreeAt T' T.n t es ∧ Upd T.n All T T' := by
 have hs := X.hs
 have hl := X.hl
 have hp := X.hp
 obtain ⟨_, T1, h1, rfl, tr1, u1⟩ := tree_copy ok hG (d := d) X.ts hn
 obtain ⟨loc', T2, w, u2, tr2, a1⟩ := again_out ok hG (d := d) hn X.hl X.hr X.rn X.hp rows [] T1 [(1735222900, .ref sf.log), (1717990261, .ref T.n)] es00 rfl u1 tr1 X.rep rfl rfl
 obtain ⟨dr, ep, xs, t3, hx3⟩ := id X.ts
 have ht := t3.ht
 have hl1 := u1.get trivial hl
 have : CaP c T 331 [.ref sf.log] (d + 6) fun v T' => v = .ref T.n ∧ TreeAt T' T.n T.n es ∧ Upd T.n All T T' := by
  refine C_funQ ok (l := [(1735222900, _)]) (tF hG rfl) rfl fun Qz hQ => ?_
  apply X_consP
  apply S_asg
  apply E_meth ok
  apply E_attr ok
  apply E_la ok
  exact rfl
  ·(with_reducible repeat' first | assumption | exact get_new _ _ | apply get_put | apply get_old | refine get_nf (by assumption) ?_ | apply get_kd | with_unfolding_all rfl)
  exact tA hG rfl
  exact rfl
  apply k_at2
  ·(with_reducible repeat' first | assumption | exact get_new _ _ | apply get_put | apply get_old | refine get_nf (by assumption) ?_ | apply get_kd | with_unfolding_all rfl)
  exact tA hG rfl
  exact rfl
  apply k_mt2
  ·(with_reducible repeat' first | assumption | exact get_new _ _ | apply get_put | apply get_old | refine get_nf (by assumption) ?_ | apply get_kd | with_unfolding_all rfl)
  exact tM hG rfl
  exact rfl
  apply Es_nil
  refine k_ca (h1) ?_
  apply X_consP
  apply S_for
  apply E_la ok
  exact rfl
  ·(with_reducible repeat' first | assumption | exact get_new _ _ | apply get_put | apply get_old | refine get_nf (by assumption) ?_ | apply get_kd | with_unfolding_all rfl)
  exact tA hG rfl
  exact rfl
  refine k_ik (ikL (u1.get trivial X.hr)) ?_
  refine k_lo (w) ?_
  apply X_consP
  apply S_ret
  refine E_loc a1 ?_
  apply hQ
  exact ⟨rfl, tr2, u2⟩
 obtain ⟨_, T3, h3, rfl, tr3, u3⟩ := this
 refine C_funQ ok (l := [(1735222900, _)]) (tF hG rfl) rfl fun Qz hQ => ?_
 apply X_consP
 apply S_ret
 apply E_meth ok
 apply E_la ok
 exact rfl
 ·(with_reducible repeat' first | assumption | exact get_new _ _ | apply get_put | apply get_old | refine get_nf (by assumption) ?_ | apply get_kd | with_unfolding_all rfl)
 exact tA hG rfl
 exact rfl
 apply k_mt2
 ·(with_reducible repeat' first | assumption | exact get_new _ _ | apply get_put | apply get_old | refine get_nf (by assumption) ?_ | apply get_kd | with_unfolding_all rfl)
 exact tM hG rfl
 exact rfl
 apply Es_nil
 refine k_ca (h3) ?_
 apply hQ
 exact ⟨_, rfl, tr3, u3⟩
end
noncomputable abbrev rowV (q : List Nat × En) : List AV := .str q.1 :: q.2.vs
structure Rw where
 r : Nat
 q : List Nat × En
noncomputable abbrev Rw.rf (x : Rw) : AV := .ref x.r
noncomputable abbrev rwV : PE := .bin .add (.tuple (.cons (.loc 1769300593) .nil)) (.meth (.sub (.attr (.loc 1735222900) 32763704688078694) (.loc 1769300593)) 7893107 .nil)
section
variable {c : Cx} (ok : Ok c) (hG : c.G = G) {d lo t dr ep : Nat} {T : Hp} {xs : List Nd} {es : Es}
include ok hG
theorem row_ok {e : En} {r : Nat} (h : T.get r = some e.ob) : Ca c 168 [.ref r] (d + 1) T (.ref T.n) (hnew T (.tuple e.vs)) := by
 have : CaP c T 168 [.ref r] (d + 1) fun u T' => u = .ref T.n ∧ T' = hnew T (.tuple e.vs) := by
  refine C_funQ ok (l := [(1735222900, _)]) (tF hG rfl) rfl fun Qz hQ => ?_
  apply X_consP
  apply S_ret
  apply E_tuple
  apply Es_cons
  apply E_la ok
  exact rfl
  ·(with_reducible repeat' first | assumption | exact get_new _ _ | apply get_put | apply get_old | refine get_nf (by assumption) ?_ | apply get_kd | with_unfolding_all rfl)
  exact tA hG rfl
  exact rfl
  apply Es_cons
  apply E_la ok
  exact rfl
  ·(with_reducible repeat' first | assumption | exact get_new _ _ | apply get_put | apply get_old | refine get_nf (by assumption) ?_ | apply get_kd | with_unfolding_all rfl)
  exact tA hG rfl
  exact rfl
  apply Es_cons
  apply E_la ok
  exact rfl
  ·(with_reducible repeat' first | assumption | exact get_new _ _ | apply get_put | apply get_old | refine get_nf (by assumption) ?_ | apply get_kd | with_unfolding_all rfl)
  exact tA hG rfl
  exact rfl
  apply Es_cons
  apply E_la ok
  exact rfl
  ·(with_reducible repeat' first | assumption | exact get_new _ _ | apply get_put | apply get_old | refine get_nf (by assumption) ?_ | apply get_kd | with_unfolding_all rfl)
  exact tA hG rfl
  exact rfl
  apply Es_cons
  apply E_la ok
  exact rfl
  ·(with_reducible repeat' first | assumption | exact get_new _ _ | apply get_put | apply get_old | refine get_nf (by assumption) ?_ | apply get_kd | with_unfolding_all rfl)
  exact tA hG rfl
  exact rfl
  apply Es_cons
  apply E_la ok
  exact rfl
  ·(with_reducible repeat' first | assumption | exact get_new _ _ | apply get_put | apply get_old | refine get_nf (by assumption) ?_ | apply get_kd | with_unfolding_all rfl)
  exact tA hG rfl
  exact rfl
  apply Es_cons
  apply E_la ok
  exact rfl
  ·(with_reducible repeat' first | assumption | exact get_new _ _ | apply get_put | apply get_old | refine get_nf (by assumption) ?_ | apply get_kd | with_unfolding_all rfl)
  exact tA hG rfl
  exact rfl
  apply Es_cons
  apply E_la ok
  exact rfl
  ·(with_reducible repeat' first | assumption | exact get_new _ _ | apply get_put | apply get_old | refine get_nf (by assumption) ?_ | apply get_kd | with_unfolding_all rfl)
  exact tA hG rfl
  exact rfl
  apply Es_cons
  apply E_la ok
  exact rfl
  ·(with_reducible repeat' first | assumption | exact get_new _ _ | apply get_put | apply get_old | refine get_nf (by assumption) ?_ | apply get_kd | with_unfolding_all rfl)
  exact tA hG rfl
  exact rfl
  apply Es_nil
  refine k_sh (lb rfl) ?_
  apply hQ
  exact ⟨rfl, rfl⟩
 obtain ⟨_, _, h, rfl, rfl⟩ := this
 exact h
theorem rows_loop {n0 A src : Nat} {ps : List (List Nat × En)} (hA : n0 ≤ A) (h1 : 1 ≤ A) (sz : ps.length < 60) (t3 : Tree3 T lo t dr ep xs) (hT : T.n = n0) (hps : ∀ q ∈ ps, ∃ x ∈ xs, x.pe = q) (l : List (List Nat × En)) : ∀ (pr : List (List Nat × En)) (rs : List Rw) (T1 : Hp) (loc : Loc), ps = pr ++ l → Upd n0 All T T1 → T1.get src = some (.list (ps.map fun q => .str q.1)) → src ≠ A → T1.get A = some (.list (rs.map Rw.rf)) → rs.map Rw.q = pr → (∀ x ∈ rs, T1.get x.r = some (.tuple (rowV x.q))) → n0 ≤ T1.n → lk loc 1735222900 = some (.ref t) →
  CoP c (d + 1) loc T1 (.list rwV) A [1769300593] src .list pr.length .nil fun T' => ∃ rs' : List Rw, T'.get A = some (.list (rs'.map Rw.rf)) ∧ rs'.map Rw.q = ps ∧ (∀ x ∈ rs', T'.get x.r = some (.tuple (rowV x.q))) ∧ Upd n0 All T T' := by
 induction l with
 | nil =>
  intro pr rs T1 loc hx u hs ne ha e1 hr hn h2
  rw [List.append_nil] at hx; subst hx
  exact Co_endP (turnL hs (get_end _ _)) ⟨rs, ha, e1, hr, u⟩
 | cons q l ih =>
  intro pr rs T1 loc hx u hs ne ha e1 hr hn h2
  have mq : q ∈ ps := hx ▸ List.mem_append_right _ (.head _)
  obtain ⟨x, mx, ex⟩ := hps q mq
  cases ex
  subst hT
  have ta := t3.all u
  have ht := ta.ht
  have hd := ta.hd
  have ge := ta.he x mx
  have dx := dlk_yes mx t3.np
  have k1 : lk (pt loc 1769300593 (.str x.p)) 1769300593 = some (.str x.p) := by rw [lk_pt, if_pos rfl]
  have k2 : lk (pt loc 1769300593 (.str x.p)) 1735222900 = some (.ref t) := by rw [lk_pt, if_neg (by decide)]; exact h2
  have hro := row_ok ok hG (d := d) (T := hnew T1 (.tuple [.str x.p])) (get_old ge)
  have rl : rs.length < 4000 := by
   have := congrArg List.length e1
   rw [List.length_map] at this
   rw [this]; rw [hx, List.length_append] at sz
   exact lt4 (Nat.le_of_lt (Nat.lt_of_le_of_lt (Nat.le_add_right _ _) sz)) rfl
  refine Co_listP (turnL hs (by rw [hx]; exact get_mid (fun q : List Nat × En => AV.str q.1) _ _ _)) bind_one ?_
  have ha3 : (hnew (hnew (hnew T1 (.tuple [.str x.p])) (.tuple x.e.vs)) (.tuple ([.str x.p] ++ x.e.vs))).get A = some (.list (rs.map Rw.rf)) := get_old (get_old (get_old ha))
  apply Te_nilP
  apply k_ye
  apply E_bin
  apply E_tuple
  refine Es_loc k1 ?_
  apply Es_nil
  refine k_sh (lb rfl) ?_
  apply E_meth ok
  apply E_sub
  apply E_la ok
  exact k2
  ·(with_reducible repeat' first | assumption | exact get_new _ _ | apply get_put | apply get_old | refine get_nf (by assumption) ?_ | apply get_kd | with_unfolding_all rfl)
  exact tA hG rfl
  exact rfl
  refine E_loc k1 ?_
  refine k_it (I_dict (get_old hd) kOk_dc dx) ?_
  apply k_mt2
  ·(with_reducible repeat' first | assumption | exact get_new _ _ | apply get_put | apply get_old | refine get_nf (by assumption) ?_ | apply get_kd | with_unfolding_all rfl)
  exact tM hG rfl
  exact rfl
  apply Es_nil
  refine k_ca (hro) ?_
  refine k_bi (B_addT (get_old (get_new _ _)) (get_new _ _) (lb rfl) (List.cons_ne_nil _ _) (List.cons_ne_nil _ _)) ?_
  apply k_ap
  exact ha3
  rw [List.length_map]; exact rl
  first | assumption | exact Nat.le_add_left 1 _ | exact lb rfl
  have := ih (pr ++ [x.pe]) (rs ++ [⟨(hnew (hnew T1 (.tuple [.str x.p])) (.tuple x.e.vs)).n, x.pe⟩]) _ (pt loc 1769300593 (.str x.p)) (by rw [hx, List.append_assoc]; rfl) (u.new.new.new.put hA) (get_nf ne (get_old (get_old (get_old hs)))) ne (by rw [List.map_append]; exact get_put ha3) (by rw [List.map_append, e1]; rfl) (fun y my => ?_) (Nat.le_succ_of_le (Nat.le_succ_of_le (Nat.le_succ_of_le hn))) k2
  ·rw [List.length_append] at this
   exact this
  ·rcases List.mem_append.mp my with my | my
   ·exact get_kd ha3 (get_old (get_old (get_old (hr y my)))) rfl
   ·cases List.mem_singleton.mp my
    exact get_kd ha3 (get_new _ _) rfl
theorem rows_ok {m : List (List Nat × En)} (h : TreeAt T lo t es) (hn : 1 ≤ T.n) (pm : m.Perm es) (so : Srt slt (m.map (·.1))) : CaP c T 230 [.ref t] (d + 2) fun u T' => ∃ (r : Nat) (rs : List Rw), u = .ref r ∧ T'.get r = some (.list (rs.map Rw.rf)) ∧ rs.map Rw.q = m ∧ (∀ x ∈ rs, T'.get x.r = some (.tuple (rowV x.q))) ∧ Upd T.n All T T' := by
 obtain ⟨dr, ep, xs, t3, rfl⟩ := h
 have ht := t3.ht
 have hd := t3.hd
 have lx : (xs.map Nd.p).length < 64 := by rw [List.length_map]; exact Nat.lt_trans t3.sz (lb rfl)
 have lm : m.length < 60 := by rw [pm.length_eq, List.length_map]; exact t3.sz
 have pm2 : (m.map (·.1)).Perm (xs.map Nd.p) := by
  have := pm.map (·.1)
  rw [List.map_map] at this; exact this
 obtain ⟨T', h2, rs, g1, g2, g3, u2⟩ := rows_loop ok hG (d := d) (T := T) (n0 := T.n) (A := (hnew T (.list ((m.map (·.1)).map .str))).n) (src := T.n) (ps := m) (Nat.le_succ _) (Nat.le_add_left 1 _) lm t3 rfl (fun q mq => List.mem_map.mp (pm.subset mq)) m [] [] (hnew (hnew T (.list ((m.map (·.1)).map .str))) (.list [])) (rm [k_dot0, 1769300593] [(1735222900, .ref t)]) rfl Upd.refl.new.new (by have := get_old (o := .list []) (get_new T (.list ((m.map (·.1)).map .str))); rw [List.map_map] at this ⊢; exact this) (Nat.ne_of_lt (Nat.lt_succ_self _)) (get_new _ _) rfl (fun x mx => by cases mx) (Nat.le_succ_of_le (Nat.le_succ _)) rfl
 refine C_funQ ok (l := [(1735222900, _)]) (tF hG rfl) rfl fun Qz hQ => ?_
 apply X_consP
 apply S_ret
 apply E_listc
 refine E_callB ok (tG hG rfl) (by first | exact .inl ⟨_, rfl⟩ | exact .inr ⟨_, rfl⟩) ?_
 apply Es_cons
 apply E_la ok
 exact rfl
 ·(with_reducible repeat' first | assumption | exact get_new _ _ | apply get_put | apply get_old | refine get_nf (by assumption) ?_ | apply get_kd | with_unfolding_all rfl)
 exact tA hG rfl
 exact rfl
 apply Es_nil
 refine k_bc (B_sortS (l := xs.map Nd.p) (m := m.map (·.1)) (by have := Its_dict (c := c) hd (by rw [List.length_map, ← List.length_map (f := Nd.p)]; exact lx); rw [dkeys] at this; rw [List.map_map]; exact this) lx pm2 so) ?_
 refine k_ik (ikL (get_new _ _)) ?_
 refine k_co (h2) ?_
 apply hQ
 exact ⟨_, rs, rfl, g1, g2, g3, u2⟩
end
theorem eq_rows {c : Cx} {T : Hp} {m : List (List Nat × En)} : ∀ {rs rs' : List Rw}, rs.map Rw.q = m → rs'.map Rw.q = m → (∀ x ∈ rs, T.get x.r = some (.tuple (rowV x.q))) → (∀ x ∈ rs', T.get x.r = some (.tuple (rowV x.q))) → EqtL c T 1 (rs.map Rw.rf) (rs'.map Rw.rf) := by
 induction m with
 | nil =>
  intro rs rs' e1 e2 _ _
  cases List.map_eq_nil_iff.mp e1
  cases List.map_eq_nil_iff.mp e2
  exact EqL_nil
 | cons q m ih =>
  intro rs rs' e1 e2 h1 h2
  cases rs with
  | nil => cases e1
  | cons x rs =>
  cases rs' with
  | nil => cases e2
  | cons y rs' =>
  have a1 := (List.cons.inj e1).1
  have a2 := (List.cons.inj e2).1
  have g1 := h1 x (.head _)
  have g2 := h2 y (.head _)
  rw [a1] at g1
  rw [a2] at g2
  exact EqL_cons (Eq_seq (.inl ⟨g1, g2⟩) EqL_same) (ih (List.cons.inj e1).2 (List.cons.inj e2).2 (fun z m => h1 z (.tail _ m)) fun z m => h2 z (.tail _ m))
noncomputable def GoodOwn (ss : List Sn) (e : En) : Prop := (e.own = .none ∨ ∃ x ∈ ss, e.own = .int x.num) ∧ e.lea = .none
noncomputable abbrev faB : PSs := (.cons (.asg 525923086182 (.sub (.attr (.attr (.loc 1735222900) 1717990261) 32763704688078694) (.loc 1769300593))) (.cons (.ite (.and (.cons (.cmp .isnt (.attr (.loc 525923086182) 495639820400) .none) (.cons (.cmp .notin (.attr (.loc 525923086182) 495639820400) (.attr (.loc 1735222900) 8390048233337153140)) .nil))) (.cons (.expr (.meth (.loc 435661729895) 111529134485858 (.cons (.tuple (.cons (.str [111, 119, 110, 101, 114, 32, 105, 115, 32, 111, 118, 101, 114]) (.cons (.loc 1769300593) .nil))) .nil))) .nil) .nil) (.cons (.ite (.and (.cons (.cmp .isnt (.attr (.loc 525923086182) 440039269997) .none) (.cons (.cmp .notin (.attr (.loc 525923086182) 440039269997) (.attr (.loc 1735222900) 127983388092013)) .nil))) (.cons (.expr (.meth (.loc 435661729895) 111529134485858 (.cons (.tuple (.cons (.str [108, 101, 97, 115, 101, 32, 105, 115, 32, 111, 118, 101, 114]) (.cons (.loc 1769300593) .nil))) .nil))) .nil) .nil) .nil)))
section
variable {c : Cx} (ok : Ok c) (hG : c.G = G) {d s lr sp st : Nat} {T : Hp} {es : Es} {sf : SF} {rows : List Rn}
include ok hG
theorem faults_loop {src ep dr ep2 lo : Nat} {ss : List Sn} {xs : List Nd} {ps : List (List Nat × En)} (hs : T.get s = some sf.ob) (se : SesAt T sf.ses ep ss) (t3 : Tree3 T lo sf.tree dr ep2 xs) (hps : ∀ q ∈ ps, ∃ x ∈ xs, x.pe = q) (hgo : ∀ x ∈ xs, GoodOwn ss x.e) (hsrc : T.get src = some (.list (ps.map fun q => .str q.1))) (l : List (List Nat × En)) : ∀ (pr : List (List Nat × En)) (loc : Loc), ps = pr ++ l → lk loc 1735222900 = some (.ref s) → ∃ loc', Lo c [1769300593] src .list pr.length faB d loc T (.nxt loc') T ∧ lk loc' 1735222900 = some (.ref s) ∧ lk loc' 435661729895 = lk loc 435661729895 := by
 induction l with
 | nil =>
  intro pr loc hx h1
  rw [List.append_nil] at hx; subst hx
  exact ⟨_, L_end (turnL hsrc (get_end _ _)), h1, rfl⟩
 | cons q l ih =>
  intro pr loc hx h1
  have mq : q ∈ ps := hx ▸ List.mem_append_right _ (.head _)
  obtain ⟨x, mx, ex⟩ := hps q mq
  cases ex
  have ht := t3.ht
  have hd := t3.hd
  have ge := t3.he x mx
  have dx := dlk_yes mx t3.np
  obtain ⟨ho, hl⟩ := hgo x mx
  have k1 : lk (pt loc 1769300593 (.str x.p)) 1769300593 = some (.str x.p) := by rw [lk_pt, if_pos rfl]
  have k2 : lk (pt loc 1769300593 (.str x.p)) 1735222900 = some (.ref s) := by rw [lk_pt, if_neg (by decide)]; exact h1
  have k3 : lk (pt (pt loc 1769300593 (.str x.p)) 525923086182 (.ref x.r)) 525923086182 = some (.ref x.r) := by rw [lk_pt, if_pos rfl]
  have k4 : lk (pt (pt loc 1769300593 (.str x.p)) 525923086182 (.ref x.r)) 1735222900 = some (.ref s) := by rw [lk_pt, if_neg (by decide)]; exact k2
  obtain ⟨loc', w, a1, a2⟩ := ih (pr ++ [x.pe]) (pt (pt loc 1769300593 (.str x.p)) 525923086182 (.ref x.r)) (by rw [hx, List.append_assoc]; rfl) k4
  rw [List.length_append] at w
  have : ExP c d (pt loc 1769300593 (.str x.p)) T faB (fun l T1 => l = pt (pt loc 1769300593 (.str x.p)) 525923086182 (.ref x.r) ∧ T1 = T) (fun _ _ => False) := by
   rcases ho with ho | ⟨y, my, ho⟩
   ·skip
    apply X_consP
    apply S_asg
    apply E_sub
    apply E_attr ok
    apply E_la ok
    exact k2
    ·(with_reducible repeat' first | assumption | exact get_new _ _ | apply get_put | apply get_old | refine get_nf (by assumption) ?_ | apply get_kd | with_unfolding_all rfl)
    exact tA hG rfl
    exact rfl
    apply k_at2
    ·(with_reducible repeat' first | assumption | exact get_new _ _ | apply get_put | apply get_old | refine get_nf (by assumption) ?_ | apply get_kd | with_unfolding_all rfl)
    exact tA hG rfl
    exact rfl
    refine E_loc k1 ?_
    refine k_it (I_dict hd kOk_dc dx) ?_
    apply X_consP
    apply S_if
    apply T_andP
    apply Ts_stopP
    apply T_cmpP
    apply E_la ok
    exact k3
    ·(with_reducible repeat' first | assumption | exact get_new _ _ | apply get_put | apply get_old | refine get_nf (by assumption) ?_ | apply get_kd | with_unfolding_all rfl)
    exact tA hG rfl
    exact rfl
    apply E_none
    refine k_cm false (by rw [ho]; exact C_isnt0) ?_
    apply k_ye
    apply X_nilP
    apply X_consP
    apply S_if
    apply T_andP
    apply Ts_stopP
    apply T_cmpP
    apply E_la ok
    exact k3
    ·(with_reducible repeat' first | assumption | exact get_new _ _ | apply get_put | apply get_old | refine get_nf (by assumption) ?_ | apply get_kd | with_unfolding_all rfl)
    exact tA hG rfl
    exact rfl
    apply E_none
    refine k_cm false (by rw [hl]; exact C_isnt0) ?_
    apply k_ye
    apply X_nilP
    apply X_nilP
    exact ⟨rfl, rfl⟩
   ·skip
    apply X_consP
    apply S_asg
    apply E_sub
    apply E_attr ok
    apply E_la ok
    exact k2
    ·(with_reducible repeat' first | assumption | exact get_new _ _ | apply get_put | apply get_old | refine get_nf (by assumption) ?_ | apply get_kd | with_unfolding_all rfl)
    exact tA hG rfl
    exact rfl
    apply k_at2
    ·(with_reducible repeat' first | assumption | exact get_new _ _ | apply get_put | apply get_old | refine get_nf (by assumption) ?_ | apply get_kd | with_unfolding_all rfl)
    exact tA hG rfl
    exact rfl
    refine E_loc k1 ?_
    refine k_it (I_dict hd kOk_dc dx) ?_
    apply X_consP
    apply S_if
    apply T_andP
    apply Ts_goP
    apply T_cmpP
    apply E_la ok
    exact k3
    ·(with_reducible repeat' first | assumption | exact get_new _ _ | apply get_put | apply get_old | refine get_nf (by assumption) ?_ | apply get_kd | with_unfolding_all rfl)
    exact tA hG rfl
    exact rfl
    apply E_none
    refine k_cm true (by rw [ho]; exact C_isnt1 rfl) ?_
    apply k_ye
    apply Ts_stopP
    apply T_cmpP
    apply E_la ok
    exact k3
    ·(with_reducible repeat' first | assumption | exact get_new _ _ | apply get_put | apply get_old | refine get_nf (by assumption) ?_ | apply get_kd | with_unfolding_all rfl)
    exact tA hG rfl
    exact rfl
    apply E_la ok
    exact k4
    ·(with_reducible repeat' first | assumption | exact get_new _ _ | apply get_put | apply get_old | refine get_nf (by assumption) ?_ | apply get_kd | with_unfolding_all rfl)
    exact tA hG rfl
    exact rfl
    refine k_cm false (by rw [ho]; exact cmt (C_ninD se.hd kOk_ses) (by rw [dlk_ses my se.nd]; rfl)) ?_
    apply k_ye
    apply X_nilP
    apply X_consP
    apply S_if
    apply T_andP
    apply Ts_stopP
    apply T_cmpP
    apply E_la ok
    exact k3
    ·(with_reducible repeat' first | assumption | exact get_new _ _ | apply get_put | apply get_old | refine get_nf (by assumption) ?_ | apply get_kd | with_unfolding_all rfl)
    exact tA hG rfl
    exact rfl
    apply E_none
    refine k_cm false (by rw [hl]; exact C_isnt0) ?_
    apply k_ye
    apply X_nilP
    apply X_nilP
    exact ⟨rfl, rfl⟩
  obtain ⟨_, _, hb, rfl, rfl⟩ | ⟨_, _, _, f⟩ := this
  ·exact ⟨loc', L_next (turnL hsrc (by rw [hx]; exact get_mid (fun q : List Nat × En => AV.str q.1) _ _ _)) bind_one hb w, a1, by rw [a2, lk_pt, if_neg (by decide), lk_pt, if_neg (by decide)]⟩
  ·exact f.elim
theorem faults_ok {ep : Nat} {ss : List Sn} {m : List (List Nat × En)} (X : StoreAt T s lr sp st sf rows es) (se : SesAt T sf.ses ep ss) (hgo : ∀ q ∈ es, GoodOwn ss q.2) (pm : m.Perm es) (so : Srt slt (m.map (·.1))) (hn : 1 ≤ T.n) : CaP c T 731 [.ref s] (d + 8) fun v T' => ∃ r, v = .ref r ∧ T'.get r = some (.list []) ∧ Upd T.n All T T' := by
 obtain ⟨dr, ep2, xs, t3, hx⟩ := id X.tr
 subst hx
 have hs := X.hs
 have ht := t3.ht
 have hd := t3.hd
 have lx : (xs.map Nd.p).length < 64 := by rw [List.length_map]; exact Nat.lt_trans t3.sz (lb rfl)
 have pm2 : (m.map (·.1)).Perm (xs.map Nd.p) := by
  have := pm.map (·.1)
  rw [List.map_map] at this; exact this
 have un : Upd T.n All T (hnew (hnew T (.list [])) (.list ((m.map (·.1)).map .str))) := Upd.refl.new.new
 have hs2 := un.get trivial hs
 obtain ⟨loc', w, a1, a2⟩ := faults_loop ok hG (d := d + 7) (T := hnew (hnew T (.list [])) (.list ((m.map (·.1)).map .str))) (src := (hnew T (.list [])).n) (ps := m) hs2 ⟨un.get trivial se.hd, fun y m => ⟨(se.he y m).1, let ⟨h, g⟩ := (se.he y m).2; ⟨h, un.get trivial g⟩⟩, se.nd⟩ (t3.all un) (fun q mq => List.mem_map.mp (pm.subset mq)) (fun x mx => hgo _ (List.mem_map_of_mem mx)) (by have := get_new (hnew T (.list [])) (.list ((m.map (·.1)).map .str)); rw [List.map_map] at this ⊢; exact this) m [] [(1735222900, .ref s), (435661729895, .ref T.n)] rfl rfl
 have X2 : StoreAt (hnew (hnew T (.list [])) (.list ((m.map (·.1)).map .str))) s lr sp st sf rows (xs.map Nd.pe) := ⟨hs2, X.ps, un.get trivial X.hl, un.get trivial X.hr, X.pl, fun y m => (X.rn y m).upd un fun _ _ _ => trivial, un.get trivial X.hp, X.ts.all un, X.tr.all un, un.get trivial X.wat, un.get trivial X.lea, X.rep, X.lst, X.pos⟩
 obtain ⟨_, T3, h3, t9, rfl, tr3, u3⟩ := again_ok ok hG (d := d) X2 (Nat.le_succ_of_le (Nat.le_succ_of_le hn))
 have u03 := un.then u3 un.1
 obtain ⟨_, T4, h4, r4, rs4, rfl, g4, e4, q4, u4⟩ := rows_ok ok hG (d := d + 5) tr3 (Nat.le_trans hn u03.1) pm so
 have u04 := u03.then u4 u03.1
 obtain ⟨_, T5, h5, r5, rs5, rfl, g5, e5, q5, u5⟩ := rows_ok ok hG (d := d + 5) (X.tr.all u04) (Nat.le_trans hn u04.1) pm so
 have u05 := u04.then u5 u04.1
 have hs4 := u04.get trivial hs
 have ht4 := u04.get trivial ht
 obtain ⟨dr3, ep3, xs3, t33, hx3⟩ := id tr3
 have ht3 := t33.ht
 have gf : T5.get T.n = some (.list []) := u5.get trivial (u4.get trivial (u3.get trivial (get_old (get_new _ _))))
 refine C_funQ ok (l := [(1735222900, _)]) (tF hG rfl) rfl fun Qz hQ => ?_
 apply X_consP
 apply S_asg
 apply E_list
 apply Es_nil
 refine k_sh (lb rfl) ?_
 apply X_consP
 apply S_for
 refine E_callB ok (tG hG rfl) (by first | exact .inl ⟨_, rfl⟩ | exact .inr ⟨_, rfl⟩) ?_
 apply Es_cons
 apply E_attr ok
 apply E_la ok
 exact rfl
 ·(with_reducible repeat' first | assumption | exact get_new _ _ | apply get_put | apply get_old | refine get_nf (by assumption) ?_ | apply get_kd | with_unfolding_all rfl)
 exact tA hG rfl
 exact rfl
 apply k_at2
 ·(with_reducible repeat' first | assumption | exact get_new _ _ | apply get_put | apply get_old | refine get_nf (by assumption) ?_ | apply get_kd | with_unfolding_all rfl)
 exact tA hG rfl
 exact rfl
 apply Es_nil
 refine k_bc (B_sortS (l := xs.map Nd.p) (m := m.map (·.1)) (by have := Its_dict (c := c) (get_old (o := .list []) hd) (by rw [List.length_map, ← List.length_map (f := Nd.p)]; exact lx); rw [dkeys] at this; rw [List.map_map]; exact this) lx pm2 so) ?_
 refine k_ik (ikL (get_new _ _)) ?_
 refine k_lo (w) ?_
 apply X_consP
 apply S_if
 apply T_cmpP
 apply E_meth ok
 apply E_lm ok
 exact a1
 exact hs2
 exact tM hG rfl
 exact rfl
 apply Es_nil
 refine k_ca (h3) ?_
 apply k_mt2
 ·(with_reducible repeat' first | assumption | exact get_new _ _ | apply get_put | apply get_old | refine get_nf (by assumption) ?_ | apply get_kd | with_unfolding_all rfl)
 exact tM hG rfl
 exact rfl
 apply Es_nil
 refine k_ca (h4) ?_
 apply E_meth ok
 apply E_la ok
 exact a1
 ·(with_reducible repeat' first | assumption | exact get_new _ _ | apply get_put | apply get_old | refine get_nf (by assumption) ?_ | apply get_kd | with_unfolding_all rfl)
 exact tA hG rfl
 exact rfl
 apply k_mt2
 ·(with_reducible repeat' first | assumption | exact get_new _ _ | apply get_put | apply get_old | refine get_nf (by assumption) ?_ | apply get_kd | with_unfolding_all rfl)
 exact tM hG rfl
 exact rfl
 apply Es_nil
 refine k_ca (h5) ?_
 refine k_cm false (C_neR (f := 1) (lb rfl) (.inr ⟨u5.get trivial g4, g5⟩) (eq_rows e4 e5 (fun x mx => u5.get trivial (q4 x mx)) q5)) ?_
 apply X_nilP
 apply X_consP
 apply S_ret
 refine E_loc a2 ?_
 apply hQ
 exact ⟨_, rfl, gf, u05⟩
end
theorem TreeAt.offS {T : Hp} {lo t r : Nat} {es : Es} {fs : List (Nat × AV)} {o' : AO} (h : TreeAt T lo t es) (g : T.get r = some (.inst 734 fs)) : TreeAt (hput T r o') lo t es := h.off g rfl rfl rfl
section
variable {c : Cx} (ok : Ok c) (hG : c.G = G) {d lo t : Nat} {T : Hp} {es : Es}
include ok hG
theorem snap_init (tr : TreeAt T lo t es) (hn : 1 ≤ T.n) : CaP c (hnew T (.inst 275 [])) 272 [.ref T.n, .int 0, .ref t] (d + 6) fun u T' => u = .none ∧ ∃ st, T'.get T.n = some (snOb st) ∧ TreeAt T' 1 st es ∧ Upd T.n All T T' := by
 obtain ⟨dr, ep, xs, t3, hx⟩ := id tr
 have ht := t3.ht
 have u1 : Upd T.n All T (hput (hnew T (.inst 275 [])) T.n (.inst 275 [(8030035183836554867, .int 0)])) := Upd.refl.new.put (Nat.le_refl _)
 refine C_funQ ok (l := [(1735222900, _), (8030035183836554867, _), (1717990261, _)]) (tF hG rfl) rfl fun Qz hQ => ?_
 apply X_consP
 apply S_asgL ok
 refine E_loc rfl ?_
 apply k_al
 exact rfl
 ·(with_reducible repeat' first | assumption | exact get_new _ _ | apply get_put | apply get_old | refine get_nf (by assumption) ?_ | apply get_kd | with_unfolding_all rfl)
 exact tA hG rfl
 exact lb rfl
 first | assumption | exact Nat.le_add_left 1 _ | exact lb rfl
 apply X_consP
 apply S_asgL ok
 apply E_lm ok
 exact rfl
 ·(with_reducible repeat' first | assumption | exact get_new _ _ | apply get_put | apply get_old | refine get_nf (by assumption) ?_ | apply get_kd | with_unfolding_all rfl)
 exact tM hG rfl
 exact rfl
 apply Es_nil
 refine CaP.imp (tree_copy ok hG (tr.all u1) (Nat.le_succ_of_le hn)) ?_
 rintro _ T2 ⟨rfl, tr2, u2⟩
 have g2 : T2.get T.n = some (.inst 275 [(8030035183836554867, .int 0)]) := u2.get trivial (get_put (get_new _ _))
 apply k_al
 exact rfl
 ·(with_reducible repeat' first | assumption | exact get_new _ _ | apply get_put | apply get_old | refine get_nf (by assumption) ?_ | apply get_kd | with_unfolding_all rfl)
 exact tA hG rfl
 exact lb rfl
 first | assumption | exact Nat.le_add_left 1 _ | exact lb rfl
 apply X_nilP
 apply hQ
 exact ⟨rfl, _, get_put g2, (tr2.off g2 rfl rfl rfl).weak (Nat.le_succ_of_le hn), (u1.then u2 u1.1).put (Nat.le_refl _)⟩
theorem log_init (hn : 1 ≤ T.n) : CaP c (hnew T (.inst 334 [])) 293 [.ref T.n] (d + 8) fun u T' => u = .none ∧ ∃ lr sp st, T'.get T.n = some (logOb lr sp) ∧ T'.get lr = some (.list []) ∧ T'.get sp = some (snOb st) ∧ TreeAt T' 1 st es00 ∧ 1 ≤ lr ∧ Upd T.n All T T' := by
 have u1 : Upd T.n All T (hput (hnew (hnew T (.inst 334 [])) (.list [])) T.n (.inst 334 [(1954050163, .ref (hnew T (.inst 334 [])).n)])) := Upd.refl.new.new.put (Nat.le_refl _)
 refine C_funQ ok (l := [(1735222900, _)]) (tF hG rfl) rfl fun Qz hQ => ?_
 apply X_consP
 apply S_asgL ok
 apply E_list
 apply Es_nil
 refine k_sh (lb rfl) ?_
 apply k_al
 exact rfl
 ·(with_reducible repeat' first | assumption | exact get_new _ _ | apply get_put | apply get_old | refine get_nf (by assumption) ?_ | apply get_kd | with_unfolding_all rfl)
 exact tA hG rfl
 exact lb rfl
 first | assumption | exact Nat.le_add_left 1 _ | exact lb rfl
 apply X_consP
 apply S_asgL ok
 refine E_new ok (tG hG rfl) (tC hG rfl) rfl ?_
 apply Es_cons
 apply E_int
 apply Es_cons
 refine E_new ok (tG hG rfl) (tC hG rfl) rfl ?_
 apply Es_nil
 refine CaP.imp (tree_init ok hG (d := d + 3) (Nat.le_succ_of_le (Nat.le_succ_of_le hn))) ?_
 rintro _ T2 ⟨rfl, tr2, u2⟩
 apply k_no
 apply Es_nil
 refine CaP.imp (snap_init ok hG (d := d) tr2 (Nat.le_trans (Nat.le_succ_of_le (Nat.le_succ_of_le hn)) u2.1)) ?_
 rintro _ T3 ⟨rfl, st, g3, tr3, u3⟩
 have u23 := u2.then u3 u2.1
 have g4 : T3.get T.n = some (.inst 334 [(1954050163, .ref (hnew T (.inst 334 [])).n)]) := u23.get trivial (get_put (get_old (get_new _ _)))
 have g5 : T3.get (hnew T (.inst 334 [])).n = some (.list []) := u23.get trivial (get_kd (get_old (get_new _ _)) (get_new _ _) rfl)
 apply k_no
 apply k_al
 exact rfl
 ·(with_reducible repeat' first | assumption | exact get_new _ _ | apply get_put | apply get_old | refine get_nf (by assumption) ?_ | apply get_kd | with_unfolding_all rfl)
 exact tA hG rfl
 exact lb rfl
 first | assumption | exact Nat.le_add_left 1 _ | exact lb rfl
 apply X_consP
 apply S_asgL ok
 apply E_int
 apply k_al
 exact rfl
 ·(with_reducible repeat' first | assumption | exact get_new _ _ | apply get_put | apply get_old | refine get_nf (by assumption) ?_ | apply get_kd | with_unfolding_all rfl)
 exact tA hG rfl
 exact lb rfl
 first | assumption | exact Nat.le_add_left 1 _ | exact lb rfl
 apply X_nilP
 apply hQ
 exact ⟨rfl, _, _, st, get_put (get_put g4), get_kd (get_put g4) (get_kd g4 g5 rfl) rfl, get_kd (get_put g4) (get_kd g4 g3 rfl) rfl, (tr3.off g4 rfl rfl rfl).off (get_put g4) rfl rfl rfl, Nat.le_succ_of_le hn, ((u1.then u23 u1.1).put (Nat.le_refl _)).put (Nat.le_refl _)⟩
theorem store_init (hn : 1 ≤ T.n) : CaP c (hnew T (.inst 734 [])) 479 [.ref T.n] (d + 10) fun u T' => u = .none ∧ ∃ (lr sp st : Nat) (sf : SF), StoreAt T' T.n lr sp st sf [] es00 ∧ SesAt T' sf.ses 0 [] ∧ sf.wat ≠ sf.ses ∧ sf.lea ≠ sf.ses ∧ sf.cnt = 0 ∧ sf.rev = 0 ∧ Upd T.n All T T' := by
 refine C_funQ ok (l := [(1735222900, _), (1902536300, _)]) (tF hG rfl) rfl fun Qz hQ => ?_
 apply X_consP
 apply S_if
 apply T_cmpP
 refine E_loc rfl ?_
 apply E_none
 refine k_cm false (by first | exact C_isnt0 | exact C_isnt1 rfl | exact C_isntT) ?_
 apply X_nilP
 apply X_consP
 apply S_asgL ok
 refine E_new ok (tG hG rfl) (tC hG rfl) rfl ?_
 apply Es_nil
 refine CaP.imp (tree_init ok hG (d := d + 5) (Nat.le_succ_of_le hn)) ?_
 rintro _ T2 ⟨rfl, tr2, u2⟩
 have g2 : T2.get T.n = some (.inst 734 []) := u2.get trivial (get_new _ _)
 apply k_no
 apply k_al
 exact rfl
 ·(with_reducible repeat' first | assumption | exact get_new _ _ | apply get_put | apply get_old | refine get_nf (by assumption) ?_ | apply get_kd | with_unfolding_all rfl)
 exact tA hG rfl
 exact lb rfl
 first | assumption | exact Nat.le_add_left 1 _ | exact lb rfl
 apply X_consP
 apply S_asgL ok
 refine E_new ok (tG hG rfl) (tC hG rfl) rfl ?_
 apply Es_nil
 refine CaP.imp (log_init ok hG (d := d) (Nat.le_trans (Nat.le_succ_of_le hn) u2.1)) ?_
 rintro _ T3 ⟨rfl, lr, sp, st, g3, g4, g5, tr5, l5, u3⟩
 have g6 : T3.get T.n = some (.inst 734 [(1717990261, .ref (hnew T (.inst 734 [])).n)]) := u3.get trivial (get_put g2)
 have tr3 := (tr2.off g2 (o' := .inst 734 [(1717990261, .ref (hnew T (.inst 734 [])).n)]) rfl rfl rfl).all u3
 apply k_no
 apply k_al
 exact rfl
 ·(with_reducible repeat' first | assumption | exact get_new _ _ | apply get_put | apply get_old | refine get_nf (by assumption) ?_ | apply get_kd | with_unfolding_all rfl)
 exact tA hG rfl
 exact lb rfl
 first | assumption | exact Nat.le_add_left 1 _ | exact lb rfl
 apply X_consP
 apply S_asgL ok
 refine E_loc rfl ?_
 apply k_al
 exact rfl
 ·(with_reducible repeat' first | assumption | exact get_new _ _ | apply get_put | apply get_old | refine get_nf (by assumption) ?_ | apply get_kd | with_unfolding_all rfl)
 exact tA hG rfl
 exact lb rfl
 first | assumption | exact Nat.le_add_left 1 _ | exact lb rfl
 apply X_consP
 apply S_asgL ok
 apply E_int
 apply k_al
 exact rfl
 ·(with_reducible repeat' first | assumption | exact get_new _ _ | apply get_put | apply get_old | refine get_nf (by assumption) ?_ | apply get_kd | with_unfolding_all rfl)
 exact tA hG rfl
 exact lb rfl
 first | assumption | exact Nat.le_add_left 1 _ | exact lb rfl
 apply X_consP
 apply S_asgL ok
 apply E_int
 apply k_al
 exact rfl
 ·(with_reducible repeat' first | assumption | exact get_new _ _ | apply get_put | apply get_old | refine get_nf (by assumption) ?_ | apply get_kd | with_unfolding_all rfl)
 exact tA hG rfl
 exact lb rfl
 first | assumption | exact Nat.le_add_left 1 _ | exact lb rfl
 apply X_consP
 apply S_asgL ok
 apply E_dict0 ok
 apply k_al
 exact rfl
 ·(with_reducible repeat' first | assumption | exact get_new _ _ | apply get_put | apply get_old | refine get_nf (by assumption) ?_ | apply get_kd | with_unfolding_all rfl)
 exact tA hG rfl
 exact lb rfl
 first | assumption | exact Nat.le_add_left 1 _ | exact lb rfl
 apply X_consP
 apply S_asgL ok
 apply E_dict0 ok
 apply k_al
 exact rfl
 ·(with_reducible repeat' first | assumption | exact get_new _ _ | apply get_put | apply get_old | refine get_nf (by assumption) ?_ | apply get_kd | with_unfolding_all rfl)
 exact tA hG rfl
 exact lb rfl
 first | assumption | exact Nat.le_add_left 1 _ | exact lb rfl
 apply X_consP
 apply S_asgL ok
 apply E_dict0 ok
 apply k_al
 exact rfl
 ·(with_reducible repeat' first | assumption | exact get_new _ _ | apply get_put | apply get_old | refine get_nf (by assumption) ?_ | apply get_kd | with_unfolding_all rfl)
 exact tA hG rfl
 exact lb rfl
 first | assumption | exact Nat.le_add_left 1 _ | exact lb rfl
 apply X_consP
 apply S_asgL ok
 apply E_int
 apply k_al
 exact rfl
 ·(with_reducible repeat' first | assumption | exact get_new _ _ | apply get_put | apply get_old | refine get_nf (by assumption) ?_ | apply get_kd | with_unfolding_all rfl)
 exact tA hG rfl
 exact lb rfl
 first | assumption | exact Nat.le_add_left 1 _ | exact lb rfl
 apply X_nilP
 apply hQ
 have u03 : Upd T.n All T T3 := ((Upd.refl.new.then u2 (Nat.le_succ _)).put (Nat.le_refl _)).then u3 (Nat.le_trans (Nat.le_succ _) u2.1)
 refine ⟨rfl, lr, sp, st, ⟨_, _, 0, 0, _, _, _, 0⟩, ⟨get_put (by (with_reducible repeat' first | assumption | exact get_new _ _ | apply get_put | apply get_old | refine get_nf (by assumption) ?_ | apply get_kd | with_unfolding_all rfl)), hn, by (with_reducible repeat' first | assumption | exact get_new _ _ | apply get_put | apply get_old | refine get_nf (by assumption) ?_ | apply get_kd | with_unfolding_all rfl), show Hp.get _ lr = some (.list []) from by (with_reducible repeat' first | assumption | exact get_new _ _ | apply get_put | apply get_old | refine get_nf (by assumption) ?_ | apply get_kd | with_unfolding_all rfl), l5, fun x m => (by cases m), by (with_reducible repeat' first | assumption | exact get_new _ _ | apply get_put | apply get_old | refine get_nf (by assumption) ?_ | apply get_kd | with_unfolding_all rfl), ?_, ?_, by (with_reducible repeat' first | assumption | exact get_new _ _ | apply get_put | apply get_old | refine get_nf (by assumption) ?_ | apply get_kd | with_unfolding_all rfl), by (with_reducible repeat' first | assumption | exact get_new _ _ | apply get_put | apply get_old | refine get_nf (by assumption) ?_ | apply get_kd | with_unfolding_all rfl), rfl, rfl, Int.le_refl _⟩, ⟨show Hp.get _ _ = some (.dict [] 0) from by (with_reducible repeat' first | assumption | exact get_new _ _ | apply get_put | apply get_old | refine get_nf (by assumption) ?_ | apply get_kd | with_unfolding_all rfl), fun x m => (by cases m), List.nodup_nil⟩, ?_, ?_, rfl, rfl, ?_⟩
 ·(with_reducible repeat' first | assumption | apply TreeAt.offS | refine TreeAt.all ?_ Upd.refl.new | exact get_new _ _ | apply get_put | apply get_old | apply get_kd | with_unfolding_all rfl)
 ·exact TreeAt.weak (lo := (hnew T (.inst 734 [])).n) (by (with_reducible repeat' first | assumption | apply TreeAt.offS | refine TreeAt.all ?_ Upd.refl.new | exact get_new _ _ | apply get_put | apply get_old | apply get_kd | with_unfolding_all rfl)) (Nat.le_succ_of_le hn)
 ·exact Nat.ne_of_gt (Nat.lt_succ_of_lt (Nat.lt_succ_self _))
 ·exact Nat.ne_of_gt (Nat.lt_succ_self _)
 ·(with_reducible repeat' first | assumption | exact Upd.refl | apply Upd.new | apply Upd.put | apply Upd.leA)
end
theorem dlk_sno {n : Int} {ss : List Sn} (h : n ∉ ss.map Sn.num) : dlk (.int n) (ss.map Sn.dc) = none := by
 induction ss with
 | nil => rfl
 | cons x ss ih =>
  have e : x.num ≠ n := fun e => h (e ▸ .head _)
  show (if decide (x.num = n) = true then _ else _) = _
  rw [if_neg fun q => e (of_decide_eq_true q)]
  exact ih fun m => h (.tail _ m)
theorem dpt_ses {x : Sn} {ss : List Sn} (h : x.num ∉ ss.map Sn.num) : dpt (.int x.num) (.ref x.r) (ss.map Sn.dc) = (ss ++ [x]).map Sn.dc := by
 induction ss with
 | nil => rfl
 | cons y ss ih =>
  have e : y.num ≠ x.num := fun e => h (e ▸ .head _)
  show (if decide (y.num = x.num) = true then _ else _) = _
  rw [if_neg fun q => e (of_decide_eq_true q), ih fun m => h (.tail _ m)]; rfl
theorem TreeAt.keep2 {T T' : Hp} {lo t s sd ep : Nat} {es : Es} {ss : List Sn} {sf : SF} (h : TreeAt T lo t es) (ne : es ≠ []) (hs : T.get s = some sf.ob) (hd : T.get sd = some (.dict (ss.map Sn.dc) ep)) (u : Upd T.n (fun r _ => r ≠ s ∧ r ≠ sd) T T') : TreeAt T' lo t es := by
 obtain ⟨dr, ep2, xs, t3, rfl⟩ := h
 refine ⟨dr, ep2, xs, { t3 with ht := u.get ⟨ne_kd hs t3.ht rfl, ne_kd hd t3.ht rfl⟩ t3.ht, hd := u.get ⟨ne_kd hs t3.hd rfl, fun e => ?_⟩ t3.hd, he := fun x m => u.get ⟨ne_kd hs (t3.he x m) rfl, ne_kd hd (t3.he x m) rfl⟩ (t3.he x m) }, rfl⟩
 have := t3.hd
 rw [e, hd] at this
 cases xs with
 | nil => exact ne rfl
 | cons y ys => cases ss with
  | nil => injection this with q; injection q with q; cases q
  | cons z zs => injection this with q; injection q with q; injection q with q; injection q with q; cases q
section
variable {c : Cx} (ok : Ok c) (hG : c.G = G) {d s lr sp st : Nat} {T : Hp} {es : Es} {sf : SF} {rows : List Rn}
include ok hG
theorem ticks_ok {i : Int} (h : 1 ≤ i) : Ca c 399 [.int i] (d + 1) T (.int i) T := by
 have : CaP c T 399 [.int i] (d + 1) fun u T' => u = .int i ∧ T' = T := by
  refine C_funQ ok (l := [(500034726517, _)]) (tF hG rfl) rfl fun Qz hQ => ?_
  apply X_consP
  apply S_if
  apply T_orP
  apply Ts_goP
  apply T_cmpP
  refine E_callB ok (tG hG rfl) (by first | exact .inl ⟨_, rfl⟩ | exact .inr ⟨_, rfl⟩) ?_
  refine Es_loc rfl ?_
  apply Es_nil
  refine k_bc (by first | exact B_typeS | exact B_typeI | exact B_typeT (by (with_reducible repeat' first | assumption | exact get_new _ _ | apply get_put | apply get_old | refine get_nf (by assumption) ?_ | apply get_kd | with_unfolding_all rfl))) ?_
  refine E_glb ok (tG hG rfl) ?_
  refine k_cm false (by first | exact C_isnt0 | exact C_isnt1 rfl | exact C_isntT) ?_
  apply k_ye
  apply Ts_goP
  apply T_cmpP
  refine E_loc rfl ?_
  apply E_int
  refine k_cm false (cmt C_lt (decide_eq_false (Int.not_lt.mpr h))) ?_
  apply k_ye
  apply Ts_nilP
  apply X_nilP
  apply X_consP
  apply S_ret
  refine E_loc rfl ?_
  apply hQ
  exact ⟨rfl, rfl⟩
 obtain ⟨_, _, h, rfl, rfl⟩ := this
 exact h
theorem user_ok {u : List Nat} (h1 : u ≠ []) (h2 : u ≠ [42]) : Ca c 406 [.str u] (d + 1) T (.str u) (hnew T (.list [.str [], .str [42]])) := by
 have : CaP c T 406 [.str u] (d + 1) fun v T' => v = .str u ∧ T' = hnew T (.list [.str [], .str [42]]) := by
  refine C_funQ ok (l := [(1936094326, _)]) (tF hG rfl) rfl fun Qz hQ => ?_
  apply X_consP
  apply S_if
  apply T_orP
  apply Ts_goP
  apply T_cmpP
  refine E_callB ok (tG hG rfl) (by first | exact .inl ⟨_, rfl⟩ | exact .inr ⟨_, rfl⟩) ?_
  refine Es_loc rfl ?_
  apply Es_nil
  refine k_bc (by first | exact B_typeS | exact B_typeI | exact B_typeT (by (with_reducible repeat' first | assumption | exact get_new _ _ | apply get_put | apply get_old | refine get_nf (by assumption) ?_ | apply get_kd | with_unfolding_all rfl))) ?_
  refine E_glb ok (tG hG rfl) ?_
  refine k_cm false (by first | exact C_isnt0 | exact C_isnt1 rfl | exact C_isntT) ?_
  apply k_ye
  apply Ts_goP
  apply T_cmpP
  refine E_loc rfl ?_
  apply E_list
  apply Es_cons
  apply E_str
  apply Es_cons
  apply E_str
  apply Es_nil
  refine k_sh (lb rfl) ?_
  refine k_cm false (cmt (C_in (.inr (get_new _ _)) rfl) (by show (sq _ _ || (sq _ _ || false)) = false; rw [sq_no h1, sq_no h2]; rfl)) ?_
  apply k_ye
  apply Ts_nilP
  apply X_nilP
  apply X_consP
  apply S_ret
  refine E_loc rfl ?_
  apply hQ
  exact ⟨rfl, rfl⟩
 obtain ⟨_, _, h, rfl, rfl⟩ := this
 exact h
theorem sess_init {u : List Nat} {n tm tk : Int} (hn : 1 ≤ T.n) : CaP c (hnew T (.inst 388 [])) 378 [.ref T.n, .int n, .str u, .int tm, .int tk] (d + 1) fun v T' => v = .none ∧ T'.get T.n = some (Sn.ob ⟨n, T.n, u, tm⟩ tk) ∧ Upd T.n All T T' ∧ T'.n = T.n + 1 := by
 refine C_funQ ok (l := [(1735222900, _), (126883592042095, _), (1936094326, _), (33062797402073717, _), (1818520181, _)]) (tF hG rfl) rfl fun Qz hQ => ?_
 apply X_consP
 apply S_asgL ok
 refine E_loc rfl ?_
 apply k_al
 exact rfl
 ·(with_reducible repeat' first | assumption | exact get_new _ _ | apply get_put | apply get_old | refine get_nf (by assumption) ?_ | apply get_kd | with_unfolding_all rfl)
 exact tA hG rfl
 exact lb rfl
 first | assumption | exact Nat.le_add_left 1 _ | exact lb rfl
 apply X_consP
 apply S_asgL ok
 refine E_loc rfl ?_
 apply k_al
 exact rfl
 ·(with_reducible repeat' first | assumption | exact get_new _ _ | apply get_put | apply get_old | refine get_nf (by assumption) ?_ | apply get_kd | with_unfolding_all rfl)
 exact tA hG rfl
 exact lb rfl
 first | assumption | exact Nat.le_add_left 1 _ | exact lb rfl
 apply X_consP
 apply S_asgL ok
 refine E_loc rfl ?_
 apply k_al
 exact rfl
 ·(with_reducible repeat' first | assumption | exact get_new _ _ | apply get_put | apply get_old | refine get_nf (by assumption) ?_ | apply get_kd | with_unfolding_all rfl)
 exact tA hG rfl
 exact lb rfl
 first | assumption | exact Nat.le_add_left 1 _ | exact lb rfl
 apply X_consP
 apply S_asgL ok
 refine E_loc rfl ?_
 apply k_al
 exact rfl
 ·(with_reducible repeat' first | assumption | exact get_new _ _ | apply get_put | apply get_old | refine get_nf (by assumption) ?_ | apply get_kd | with_unfolding_all rfl)
 exact tA hG rfl
 exact lb rfl
 first | assumption | exact Nat.le_add_left 1 _ | exact lb rfl
 apply X_nilP
 apply hQ
 exact ⟨rfl, get_put (get_put (get_put (get_put (get_new _ _)))), by (with_reducible repeat' first | assumption | exact Upd.refl | apply Upd.new | apply Upd.put | apply Upd.leA), rfl⟩
theorem number_ok (hs : T.get s = some sf.ob) (ps : 1 ≤ s) : Ca c 486 [.ref s] (d + 1) T (.int (sf.cnt + 1)) (hput T s (SF.ob { sf with cnt := sf.cnt + 1 })) := by
 have : CaP c T 486 [.ref s] (d + 1) fun v T' => v = .int (sf.cnt + 1) ∧ T' = hput T s (SF.ob { sf with cnt := sf.cnt + 1 }) := by
  refine C_funQ ok (l := [(1735222900, _)]) (tF hG rfl) rfl fun Qz hQ => ?_
  apply X_consP
  apply S_asgL ok
  apply E_bin
  apply E_la ok
  exact rfl
  ·(with_reducible repeat' first | assumption | exact get_new _ _ | apply get_put | apply get_old | refine get_nf (by assumption) ?_ | apply get_kd | with_unfolding_all rfl)
  exact tA hG rfl
  exact rfl
  apply E_int
  refine k_bi (B_addI) ?_
  apply k_al
  exact rfl
  ·(with_reducible repeat' first | assumption | exact get_new _ _ | apply get_put | apply get_old | refine get_nf (by assumption) ?_ | apply get_kd | with_unfolding_all rfl)
  exact tA hG rfl
  exact lb rfl
  first | assumption | exact Nat.le_add_left 1 _ | exact lb rfl
  apply X_consP
  apply S_ret
  apply E_la ok
  exact rfl
  ·(with_reducible repeat' first | assumption | exact get_new _ _ | apply get_put | apply get_old | refine get_nf (by assumption) ?_ | apply get_kd | with_unfolding_all rfl)
  exact tA hG rfl
  exact rfl
  apply hQ
  exact ⟨rfl, rfl⟩
 obtain ⟨_, _, h, rfl, rfl⟩ := this
 exact h
theorem open_ok {u : List Nat} {ep : Nat} {ss : List Sn} {args : List AV} {tm : Int} (hb : binds f_Store_open.params args (f_Store_open.dfl.drop (args.length - (f_Store_open.params.length - f_Store_open.dfl.length))) (f_Store_open.params.length - f_Store_open.dfl.length) = some [(1735222900, .ref s), (1936094326, .str u), (33062797402073717, .int tm)]) (htm : 1 ≤ tm) (X : StoreAt T s lr sp st sf rows es) (se : SesAt T sf.ses ep ss) (h1 : u ≠ []) (h2 : u ≠ [42]) (hnew' : sf.cnt + 1 ∉ ss.map Sn.num) (sz : ss.length < 60) (w1 : sf.wat ≠ sf.ses) (w2 : sf.lea ≠ sf.ses) (pd : 1 ≤ sf.ses) (ne : es ≠ []) (hn : 1 ≤ T.n) :
  CaP c T 494 args (d + 3) fun v T' => v = .int (sf.cnt + 1) ∧ ∃ x : Sn, x.num = sf.cnt + 1 ∧ x.u = u ∧ T.n ≤ x.r ∧ StoreAt T' s lr sp st { sf with cnt := sf.cnt + 1 } rows es ∧ SesAt T' sf.ses (ep + 1) (ss ++ [x]) ∧ Upd T.n (fun r _ => r ≠ s ∧ r ≠ sf.ses) T T' := by
 have hs := X.hs
 obtain ⟨_, T2, h3, rfl, g2, u2, n2⟩ := sess_init ok hG (d := d) (T := hnew T (.list [.str [], .str [42]])) (u := u) (n := sf.cnt + 1) (tm := tm) (tk := sf.tick) (Nat.le_succ_of_le hn)
 have u02 : Upd T.n All T T2 := Upd.refl.new.then u2 (Nat.le_succ _)
 have hs2 := u02.get trivial hs
 have hd2 := u02.get trivial se.hd
 have hd3 : (hput T2 s (SF.ob { sf with cnt := sf.cnt + 1 })).get sf.ses = some (.dict (ss.map Sn.dc) ep) := get_kd hs2 hd2 rfl
 have g3 : (hput T2 s (SF.ob { sf with cnt := sf.cnt + 1 })).get (hnew T (.list [.str [], .str [42]])).n = some (Sn.ob ⟨sf.cnt + 1, (hnew T (.list [.str [], .str [42]])).n, u, tm⟩ sf.tick) := get_kd hs2 g2 rfl
 refine C_funQ ok (tF hG rfl) hb fun Q hQ => ?_
 apply X_consP
 apply S_asg
 refine E_new ok (tG hG rfl) (tC hG rfl) rfl ?_
 apply Es_cons
 apply E_bin
 apply E_la ok
 exact rfl
 ·(with_reducible repeat' first | assumption | exact get_new _ _ | apply get_put | apply get_old | refine get_nf (by assumption) ?_ | apply get_kd | with_unfolding_all rfl)
 exact tA hG rfl
 exact rfl
 apply E_int
 refine k_bi (B_addI) ?_
 apply Es_cons
 refine E_callF ok (tG hG rfl) (tF hG rfl) ?_
 refine Es_loc rfl ?_
 apply Es_nil
 refine k_ca (user_ok ok hG h1 h2) ?_
 apply Es_cons
 refine E_callF ok (tG hG rfl) (tF hG rfl) ?_
 refine Es_loc rfl ?_
 apply Es_nil
 refine k_ca (ticks_ok ok hG htm) ?_
 apply Es_cons
 apply E_la ok
 exact rfl
 ·(with_reducible repeat' first | assumption | exact get_new _ _ | apply get_put | apply get_old | refine get_nf (by assumption) ?_ | apply get_kd | with_unfolding_all rfl)
 exact tA hG rfl
 exact rfl
 apply Es_nil
 refine k_ca (h3) ?_
 apply k_no
 apply X_consP
 apply S_asgS
 refine E_loc rfl ?_
 apply E_la ok
 exact rfl
 ·(with_reducible repeat' first | assumption | exact get_new _ _ | apply get_put | apply get_old | refine get_nf (by assumption) ?_ | apply get_kd | with_unfolding_all rfl)
 exact tA hG rfl
 exact rfl
 apply E_lm ok
 exact rfl
 ·(with_reducible repeat' first | assumption | exact get_new _ _ | apply get_put | apply get_old | refine get_nf (by assumption) ?_ | apply get_kd | with_unfolding_all rfl)
 exact tM hG rfl
 exact rfl
 apply Es_nil
 refine k_ca (number_ok ok hG hs2 X.ps) ?_
 apply k_dp
 exact hd3
 exact kOk_ses
 rw [List.length_map]; exact lt4 (Nat.le_of_lt sz) rfl
 exact pd
 apply X_consP
 apply S_ret
 apply E_la ok
 exact rfl
 ·(with_reducible repeat' first | assumption | exact get_new _ _ | apply get_put | apply get_old | refine get_nf (by assumption) ?_ | apply get_kd | with_unfolding_all rfl)
 exact tA hG rfl
 exact rfl
 apply hQ
 have uf : Upd T.n (fun r _ => r ≠ s ∧ r ≠ sf.ses) T (hput (hput T2 s (SF.ob { sf with cnt := sf.cnt + 1 })) sf.ses (.dict (dpt (.int (sf.cnt + 1)) (.ref (hnew T (.list [.str [], .str [42]])).n) (ss.map Sn.dc)) (epS (.int (sf.cnt + 1)) (ss.map Sn.dc) ep))) := (u02.a.set (fun _ k => k.1 rfl) hs).set (fun _ k => k.2 rfl) se.hd
 have kt : ∀ y vs, T.get y = some (.tuple vs) → y ≠ s ∧ y ≠ sf.ses := fun y vs g => ⟨ne_kd hs g rfl, ne_kd se.hd g rfl⟩
 have gk : ∀ {r : Nat} {a : AO}, T.get r = some a → Nat.beq (kd sf.ob) (kd a) = false → Nat.beq 0 (kd a) = false → _ := fun {r a} g q1 q2 => uf.get ⟨ne_kd hs g q1, ne_kd se.hd g q2⟩ g
 refine ⟨rfl, ⟨sf.cnt + 1, (hnew T (.list [.str [], .str [42]])).n, u, tm⟩, rfl, rfl, Nat.le_succ _, ⟨get_kd hd3 (get_put hs2) rfl, X.ps, gk X.hl rfl rfl, gk X.hr rfl rfl, X.pl, fun y m => (X.rn y m).upd uf kt, gk X.hp rfl rfl, X.ts.keep2 (List.cons_ne_nil _ _) hs se.hd uf, X.tr.keep2 ne hs se.hd uf, uf.get ⟨ne_kd hs X.wat rfl, w1⟩ X.wat, uf.get ⟨ne_kd hs X.lea rfl, w2⟩ X.lea, X.rep, X.lst, X.pos⟩, ⟨?_, fun y m => ?_, ?_⟩, uf⟩
 ·rw [← dpt_ses (x := ⟨sf.cnt + 1, (hnew T (.list [.str [], .str [42]])).n, u, tm⟩) hnew']
  have e : epS (.int (sf.cnt + 1)) (ss.map Sn.dc) ep = ep + 1 := by unfold epS; rw [dlk_sno hnew']
  rw [e]; exact get_put hd3
 ·rcases List.mem_append.mp m with m | m
  ·obtain ⟨q1, h, g⟩ := se.he y m
   exact ⟨q1, h, gk g rfl rfl⟩
  ·cases List.mem_singleton.mp m
   exact ⟨Nat.le_succ_of_le hn, sf.tick, get_kd hd3 g3 rfl⟩
 ·rw [List.map_append, List.nodup_append]
  refine ⟨se.nd, nd1, fun a ha b hb => ?_⟩
  cases List.mem_singleton.mp hb
  exact fun q => hnew' ((show a = sf.cnt + 1 from q) ▸ ha)
end
noncomputable def K8 (s lr sd : Nat) : Nat → AO → Prop := fun r a => r ≠ s ∧ r ≠ lr ∧ r ≠ sd ∧ Nat.beq (388 + 6) (kd a) = false
theorem Upd.weakG {n m : Nat} {P Q : Nat → AO → Prop} {T T1 : Hp} (u : Upd n P T T1) (le : m ≤ n) (h : ∀ r a, T.get r = some a → Q r a → P r a) : Upd m Q T T1 := ⟨u.1, fun r a q p g => u.2 r a (Nat.lt_of_lt_of_le q le) (h r a g p) g⟩
structure L8 (T : Hp) (s lr sp st sd ep : Nat) (ss : List Sn) (es : Es) (m : Nat) (rev : Int) : Prop where
 X : ∃ sf rows, StoreAt T s lr sp st sf rows es ∧ rows.length ≤ m ∧ sf.ses = sd ∧ sf.rev = rev
 se : SesAt T sd ep ss
 us : ∀ x ∈ ss, x.u ≠ [42]
 ne : es ≠ []
 pd : 1 ≤ sd
 pn : 1 ≤ T.n
theorem StoreAt.new {T T' : Hp} {s lr sp st : Nat} {sf : SF} {rows : List Rn} {es : Es} (X : StoreAt T s lr sp st sf rows es) (u : Upd T.n All T T') : StoreAt T' s lr sp st sf rows es := ⟨u.get trivial X.hs, X.ps, u.get trivial X.hl, u.get trivial X.hr, X.pl, fun y m => (X.rn y m).upd u fun _ _ _ => trivial, u.get trivial X.hp, X.ts.all u, X.tr.all u, u.get trivial X.wat, u.get trivial X.lea, X.rep, X.lst, X.pos⟩
theorem SesAt.new {T T' : Hp} {sd ep : Nat} {ss : List Sn} (se : SesAt T sd ep ss) (u : Upd T.n All T T') : SesAt T' sd ep ss := ⟨u.get trivial se.hd, fun y m => ⟨(se.he y m).1, let ⟨h, g⟩ := (se.he y m).2; ⟨h, u.get trivial g⟩⟩, se.nd⟩
theorem SesAt.touch {T : Hp} {sd ep : Nat} {ss : List Sn} {x : Sn} {hh h2 : Int} (se : SesAt T sd ep ss) (gx : T.get x.r = some (x.ob hh)) : SesAt (hput T x.r (x.ob h2)) sd ep ss := by
 refine ⟨get_kd gx se.hd rfl, fun y m => ⟨(se.he y m).1, ?_⟩, se.nd⟩
 obtain ⟨h, g⟩ := (se.he y m).2
 by_cases e : y.r = x.r
 ·refine ⟨h2, ?_⟩
  have g2 := get_put (o := x.ob h2) gx
  rw [e] at g ⊢
  rw [gx] at g
  cases y; cases x
  cases g
  exact g2
 ·exact ⟨h, get_nf e g⟩
theorem StoreAt.touch {T : Hp} {s lr sp st : Nat} {sf : SF} {rows : List Rn} {es : Es} {x : Sn} {hh h2 : Int} (X : StoreAt T s lr sp st sf rows es) (gx : T.get x.r = some (x.ob hh)) : StoreAt (hput T x.r (x.ob h2)) s lr sp st sf rows es := by
 have u : Upd T.n (But x.r) T (hput T x.r (x.ob h2)) := Upd.refl.set (fun _ k => k rfl) gx
 exact ⟨get_kd gx X.hs rfl, X.ps, get_kd gx X.hl rfl, get_kd gx X.hr rfl, X.pl, fun y m => (X.rn y m).upd u fun _ _ g => ne_kd gx g rfl, get_kd gx X.hp rfl, X.ts.off gx rfl rfl rfl, X.tr.off gx rfl rfl rfl, get_kd gx X.wat rfl, get_kd gx X.lea rfl, X.rep, X.lst, X.pos⟩
section
variable {T : Hp} {s lr sp st sd ep m : Nat} {ss : List Sn} {es : Es} {rev : Int}
theorem L8.new {T' : Hp} (L : L8 T s lr sp st sd ep ss es m rev) (u : Upd T.n All T T') : L8 T' s lr sp st sd ep ss es m rev :=
 { L with X := let ⟨sf, rows, X, q⟩ := L.X; ⟨sf, rows, X.new u, q⟩, se := L.se.new u, pn := Nat.le_trans L.pn u.1 }
theorem L8.touch {x : Sn} {hh h2 : Int} (L : L8 T s lr sp st sd ep ss es m rev) (gx : T.get x.r = some (x.ob hh)) : L8 (hput T x.r (x.ob h2)) s lr sp st sd ep ss es m rev ∧ Upd T.n (K8 s lr sd) T (hput T x.r (x.ob h2)) :=
 ⟨{ L with X := let ⟨sf, rows, X, q⟩ := L.X; ⟨sf, rows, X.touch gx, q⟩, se := L.se.touch gx, pn := L.pn }, Upd.refl.set (fun _ k => Bool.noConfusion k.2.2.2) gx⟩
end
section
variable {c : Cx} (ok : Ok c) (hG : c.G = G) {d s lr sp st sd ep m : Nat} {T : Hp} {ss : List Sn} {es : Es} {rev : Int} {x : Sn}
include ok hG
theorem has8 {p : List Nat} {b : Bool} (L : L8 T s lr sp st sd ep ss es m rev) (mx : x ∈ ss) (hp : OkP p) (rc : Rch es p) (hb : (b = true ∧ ∃ e, (p, e) ∈ es) ∨ (b = false ∧ p ∉ es.map (·.1))) : CaP c T 608 [.ref s, .int x.num, .str p] (d + 7) fun v T' => v = .bool b ∧ L8 T' s lr sp st sd ep ss es m rev ∧ Upd T.n (K8 s lr sd) T T' := by
 obtain ⟨sf, rows, X, _, e, _⟩ := id L.X
 subst e
 obtain ⟨px, hh, gx⟩ := L.se.he x mx
 obtain ⟨L1, u1⟩ := L.touch (h2 := sf.tick) gx
 have h1 := session_ok ok hG (d := d + 5) X.hs L.se.hd mx L.se.nd gx px
 obtain ⟨sf1, rows1, X1, q1⟩ := L1.X
 have X1 := X.touch (h2 := sf.tick) gx
 have g1 := get_put (o := x.ob sf.tick) gx
 have hs0 := X.hs
 have hs1 := X1.hs
 obtain ⟨_, T2, h2, rfl, u2⟩ := need_ok ok hG (d := d + 5) (T := hput T x.r (x.ob sf.tick)) hp
 have hs2 := u2.get trivial hs1
 obtain ⟨_, T3, h3, rfl, u3⟩ := need_right_ok ok hG (d := d) (x := 114) (X1.tr.all u2) rc (L.us x mx) rfl
 have u13 := u2.then u3 u2.1
 have hs3 := u13.get trivial hs1
 have h4 : Ca c 203 [.ref sf.tree, .str p] (d + 6) T3 (.bool b) T3 := by
  rcases hb with ⟨rfl, e, me⟩ | ⟨rfl, np⟩
  ·exact has_yes ok hG (X1.tr.all u13) me
  ·exact has_no ok hG (X1.tr.all u13) np
 obtain ⟨dr, ep9, xs, t3, hx⟩ := X1.tr.all u13
 have ht3 := t3.ht
 refine C_funQ ok (l := [(1735222900, _), (126883592042095, _), (1769300593, _)]) (tF hG rfl) rfl fun Qz hQ => ?_
 apply X_consP
 apply S_asg
 apply E_attr ok
 apply E_lm ok
 exact rfl
 ·(with_reducible repeat' first | assumption | exact get_new _ _ | apply get_put | apply get_old | refine get_nf (by assumption) ?_ | apply get_kd | with_unfolding_all rfl)
 exact tM hG rfl
 exact rfl
 refine Es_loc rfl ?_
 apply Es_nil
 refine k_ca (h1) ?_
 apply k_at2
 ·(with_reducible repeat' first | assumption | exact get_new _ _ | apply get_put | apply get_old | refine get_nf (by assumption) ?_ | apply get_kd | with_unfolding_all rfl)
 exact tA hG rfl
 exact rfl
 apply X_consP
 apply S_expr
 refine E_callF ok (tG hG rfl) (tF hG rfl) ?_
 apply Es_cons
 apply E_la ok
 exact rfl
 ·(with_reducible repeat' first | assumption | exact get_new _ _ | apply get_put | apply get_old | refine get_nf (by assumption) ?_ | apply get_kd | with_unfolding_all rfl)
 exact tA hG rfl
 exact rfl
 apply Es_cons
 refine E_callF ok (tG hG rfl) (tF hG rfl) ?_
 refine Es_loc rfl ?_
 apply Es_nil
 refine k_ca (h2) ?_
 refine Es_loc rfl ?_
 apply Es_cons
 apply E_str
 apply Es_nil
 refine k_ca (h3) ?_
 apply X_consP
 apply S_ret
 apply E_meth ok
 apply E_la ok
 exact rfl
 ·(with_reducible repeat' first | assumption | exact get_new _ _ | apply get_put | apply get_old | refine get_nf (by assumption) ?_ | apply get_kd | with_unfolding_all rfl)
 exact tA hG rfl
 exact rfl
 apply k_mt2
 ·(with_reducible repeat' first | assumption | exact get_new _ _ | apply get_put | apply get_old | refine get_nf (by assumption) ?_ | apply get_kd | with_unfolding_all rfl)
 exact tM hG rfl
 exact rfl
 refine Es_loc rfl ?_
 apply Es_nil
 refine k_ca (h4) ?_
 apply hQ
 exact ⟨rfl, L1.new u13, u1.then u13.a u1.1⟩
theorem children8 {p : List Nat} {e : En} {m9 : List (List Nat)} (L : L8 T s lr sp st sd ep ss es m rev) (mx : x ∈ ss) (hp : OkP p) (rc : Rch es p) (me : (p, e) ∈ es) (hok : ∀ q ∈ es, OkP q.1) (pm : m9.Perm (kidsL p (es.map (·.1)))) (so : Srt slt m9) : CaP c T 615 [.ref s, .int x.num, .str p] (d + 7) fun v T' => ∃ r, v = .ref r ∧ T'.get r = some (.list (m9.map .str)) ∧ L8 T' s lr sp st sd ep ss es m rev ∧ Upd T.n (K8 s lr sd) T T' := by
 obtain ⟨sf, rows, X, _, e, _⟩ := id L.X
 subst e
 obtain ⟨px, hh, gx⟩ := L.se.he x mx
 obtain ⟨L1, u1⟩ := L.touch (h2 := sf.tick) gx
 have h1 := session_ok ok hG (d := d + 5) X.hs L.se.hd mx L.se.nd gx px
 have X1 := X.touch (h2 := sf.tick) gx
 have g1 := get_put (o := x.ob sf.tick) gx
 have hs0 := X.hs
 have hs1 := X1.hs
 obtain ⟨_, T2, h2, rfl, u2⟩ := need_ok ok hG (d := d + 5) (T := hput T x.r (x.ob sf.tick)) hp
 have hs2 := u2.get trivial hs1
 obtain ⟨_, T3, h3, rfl, u3⟩ := need_right_ok ok hG (d := d) (x := 114) (X1.tr.all u2) rc (L.us x mx) rfl
 have u13 := u2.then u3 u2.1
 have hs3 := u13.get trivial hs1
 obtain ⟨_, T4, h4, r4, rfl, g4, u4⟩ := children_ok ok hG (d := d + 3) (X1.tr.all u13) me (Nat.le_trans L.pn u13.1) hok pm so
 have u14 := u13.then u4 u13.1
 obtain ⟨dr, ep9, xs, t3, hx⟩ := X1.tr.all u13
 have ht3 := t3.ht
 refine C_funQ ok (l := [(1735222900, _), (126883592042095, _), (1769300593, _)]) (tF hG rfl) rfl fun Qz hQ => ?_
 apply X_consP
 apply S_asg
 apply E_attr ok
 apply E_lm ok
 exact rfl
 ·(with_reducible repeat' first | assumption | exact get_new _ _ | apply get_put | apply get_old | refine get_nf (by assumption) ?_ | apply get_kd | with_unfolding_all rfl)
 exact tM hG rfl
 exact rfl
 refine Es_loc rfl ?_
 apply Es_nil
 refine k_ca (h1) ?_
 apply k_at2
 ·(with_reducible repeat' first | assumption | exact get_new _ _ | apply get_put | apply get_old | refine get_nf (by assumption) ?_ | apply get_kd | with_unfolding_all rfl)
 exact tA hG rfl
 exact rfl
 apply X_consP
 apply S_expr
 refine E_callF ok (tG hG rfl) (tF hG rfl) ?_
 apply Es_cons
 apply E_la ok
 exact rfl
 ·(with_reducible repeat' first | assumption | exact get_new _ _ | apply get_put | apply get_old | refine get_nf (by assumption) ?_ | apply get_kd | with_unfolding_all rfl)
 exact tA hG rfl
 exact rfl
 apply Es_cons
 refine E_callF ok (tG hG rfl) (tF hG rfl) ?_
 refine Es_loc rfl ?_
 apply Es_nil
 refine k_ca (h2) ?_
 refine Es_loc rfl ?_
 apply Es_cons
 apply E_str
 apply Es_nil
 refine k_ca (h3) ?_
 apply X_consP
 apply S_ret
 apply E_meth ok
 apply E_la ok
 exact rfl
 ·(with_reducible repeat' first | assumption | exact get_new _ _ | apply get_put | apply get_old | refine get_nf (by assumption) ?_ | apply get_kd | with_unfolding_all rfl)
 exact tA hG rfl
 exact rfl
 apply k_mt2
 ·(with_reducible repeat' first | assumption | exact get_new _ _ | apply get_put | apply get_old | refine get_nf (by assumption) ?_ | apply get_kd | with_unfolding_all rfl)
 exact tM hG rfl
 exact rfl
 refine Es_loc rfl ?_
 apply Es_nil
 refine k_ca (h4) ?_
 apply hQ
 exact ⟨_, rfl, g4, L1.new u14, u1.then u14.a u1.1⟩
end
theorem KS.to8 {T T' : Hp} {s lr sd : Nat} {x : Sn} {hh : Int} (gx : T.get x.r = some (x.ob hh)) (u : Upd T.n (KS s lr x.r) T T') : Upd T.n (K8 s lr sd) T T' := u.weakG (Nat.le_refl _) fun r a g p => ⟨p.1, p.2.1, ne_kd gx g p.2.2.2⟩
section
variable {c : Cx} (ok : Ok c) (hG : c.G = G) {d s lr sp st sd ep m : Nat} {T : Hp} {ss : List Sn} {es : Es} {rev : Int} {x : Sn}
include ok hG
theorem create8 {k : Nat} {p data q : List Nat} {num van : Bool} {args : List AV} (hb : binds f_Store_create.params args (f_Store_create.dfl.drop (args.length - (f_Store_create.params.length - f_Store_create.dfl.length))) (f_Store_create.params.length - f_Store_create.dfl.length) = some [(1735222900, .ref s), (126883592042095, .int x.num), (1769300593, .str p), (1651860069, .str data), (115948722807415, .bool van), (7306654329047250543, .bool num), (440039269997, .none), (128047628446323, .none)]) (L : L8 T s lr sp st sd ep ss es m rev) (hm : m < 40) (mx : x ∈ ss) (hp : OkP p) (ne : p ≠ [47]) (rc : Rch es (parL p)) (hq : NumOf es num p q k) (hvn : van = num) (h : okC es (crC q data van num x.num)) : CaP c T 623 args (d + 12) fun v T' => v = .str q ∧ L8 T' s lr sp st sd ep ss (appE (rev + 1) es (crC q data van num x.num)) (m + 1) (rev + 1) ∧ Upd T.n (K8 s lr sd) T T' := by
 obtain ⟨sf, rows, X, hr, e, er⟩ := id L.X
 subst e; subst er
 obtain ⟨px, hh, gx⟩ := L.se.he x mx
 obtain ⟨v, T1, h1, rfl, sf', row, r1, r2, r3, r4, r5, r6, r7⟩ := create_ok ok hG (d := d) hb X (Nat.lt_of_le_of_lt hr (Nat.lt_trans hm (lb rfl))) L.se mx hp ne rc (L.us x mx) hq hvn h L.pn
 exact ⟨_, T1, h1, rfl, ⟨⟨sf', _, r1, by rw [List.length_append]; exact Nat.succ_le_succ hr, r2, r3⟩, r6, L.us, (fun e => by have := congrArg List.length e; rw [show appE _ _ _ = upE _ _ _ ++ [_] from rfl, List.length_append] at this; cases this), L.pd, Nat.le_trans L.pn r7.1⟩, KS.to8 gx r7⟩
theorem delete8 {p : List Nat} {e : En} (L : L8 T s lr sp st sd ep ss es m rev) (hm : m < 40) (mx : x ∈ ss) (hp : OkP p) (rc : Rch es p) (me : (p, e) ∈ es) (hv : e.ver ≠ -1) (h : okC es (.delete p)) (ne : appE (rev + 1) es (.delete p) ≠ []) : CaP c T 639 [.ref s, .int x.num, .str p] (d + 12) fun v T' => v = .none ∧ L8 T' s lr sp st sd ep ss (appE (rev + 1) es (.delete p)) (m + 1) (rev + 1) ∧ Upd T.n (K8 s lr sd) T T' := by
 obtain ⟨sf, rows, X, hr, e, er⟩ := id L.X
 subst e; subst er
 obtain ⟨px, hh, gx⟩ := L.se.he x mx
 obtain ⟨v, T1, h1, rfl, sf', row, r1, r2, r3, r4, r5, r6, r7⟩ := delete_ok ok hG (d := d) X (Nat.lt_of_le_of_lt hr (Nat.lt_trans hm (lb rfl))) L.se mx hp rc (L.us x mx) me hv h L.pn
 exact ⟨_, T1, h1, rfl, ⟨⟨sf', _, r1, by rw [List.length_append]; exact Nat.succ_le_succ hr, r2, r3⟩, r6, L.us, ne, L.pd, Nat.le_trans L.pn r7.1⟩, KS.to8 gx r7⟩
theorem join_ok {p q : List Nat} (ne : p ≠ [47]) (hp : OkP (p ++ [47] ++ q)) (h1 : p.length ≤ 200) (h2 : q.length ≤ 200) : CaP c T 124 [.str p, .str q] (d + 2) fun u T' => u = .str (p ++ [47] ++ q) ∧ Upd T.n All T T' := by
 obtain ⟨_, T1, hn, rfl, u1⟩ := need_ok ok hG (d := d) (T := T) hp
 refine C_funQ ok (l := [(1769300593, _), (1718510191, _)]) (tF hG rfl) rfl fun Qz hQ => ?_
 apply X_consP
 apply S_if
 apply T_cmpP
 refine E_loc rfl ?_
 apply E_str
 refine k_cm false (C_eq (pq_no ne)) ?_
 apply X_nilP
 apply X_consP
 apply S_ret
 refine E_callF ok (tG hG rfl) (tF hG rfl) ?_
 apply Es_cons
 apply E_bin
 apply E_bin
 refine E_loc rfl ?_
 apply E_str
 refine k_bi (B_addS (lt4 (Nat.add_le_add_right h1 1) rfl)) ?_
 refine E_loc rfl ?_
 refine k_bi (B_addS (by rw [List.length_append]; exact lt4 (Nat.add_le_add (Nat.add_le_add_right h1 1) h2) rfl)) ?_
 apply Es_nil
 refine k_ca (hn) ?_
 apply hQ
 exact ⟨rfl, u1⟩
theorem made_root : Ca c 752 [.ref s, .int x.num, .str [47]] (d + 1) T (.str [47]) T := by
 have : CaP c T 752 [.ref s, .int x.num, .str [47]] (d + 1) fun u T' => u = .str [47] ∧ T' = T := by
  refine C_funQ ok (l := [(440023414132, _), (126883592042095, _), (1769300593, _)]) (tF hG rfl) rfl fun Qz hQ => ?_
  apply X_consP
  apply S_if
  apply T_andP
  apply Ts_stopP
  apply T_cmpP
  refine E_loc rfl ?_
  apply E_str
  refine k_cm false (C_ne (t := true) rfl) ?_
  apply k_ye
  apply X_nilP
  apply X_consP
  apply S_ret
  refine E_loc rfl ?_
  apply hQ
  exact ⟨rfl, rfl⟩
 obtain ⟨_, _, h, rfl, rfl⟩ := this
 exact h
theorem made_yes {p : List Nat} {e : En} (L : L8 T s lr sp st sd ep ss es m rev) (mx : x ∈ ss) (hp : OkP p) (ne : p ≠ [47]) (rc : Rch es p) (me : (p, e) ∈ es) : CaP c T 752 [.ref s, .int x.num, .str p] (d + 8) fun v T' => v = .str p ∧ L8 T' s lr sp st sd ep ss es m rev ∧ Upd T.n (K8 s lr sd) T T' := by
 obtain ⟨_, T1, h1, rfl, L1, u1⟩ := has8 ok hG (d := d) (b := true) L mx hp rc (.inl ⟨rfl, e, me⟩)
 obtain ⟨sf, rows, X, hr, e, er⟩ := id L.X
 have hs := X.hs
 refine C_funQ ok (l := [(440023414132, _), (126883592042095, _), (1769300593, _)]) (tF hG rfl) rfl fun Qz hQ => ?_
 apply X_consP
 apply S_if
 apply T_andP
 apply Ts_goP
 apply T_cmpP
 refine E_loc rfl ?_
 apply E_str
 refine k_cm true (C_ne (t := false) (pq_no ne)) ?_
 apply k_ye
 apply Ts_stopP
 apply T_notP
 refine T_plainP rfl ?_
 apply E_lm ok
 exact rfl
 ·(with_reducible repeat' first | assumption | exact get_new _ _ | apply get_put | apply get_old | refine get_nf (by assumption) ?_ | apply get_kd | with_unfolding_all rfl)
 exact tM hG rfl
 exact rfl
 refine Es_loc rfl ?_
 refine Es_loc rfl ?_
 apply Es_nil
 refine k_ca (h1) ?_
 apply k_bl
 apply k_ye
 apply X_nilP
 apply X_consP
 apply S_ret
 refine E_loc rfl ?_
 apply hQ
 exact ⟨rfl, L1, u1⟩
theorem made_no {p : List Nat} {es1 : Es} {m1 : Nat} {rev1 : Int} {e0 : En} {v0 : AV} (L : L8 T s lr sp st sd ep ss es m rev) (mx : x ∈ ss) (hp : OkP p) (ne : p ≠ [47]) (rc : Rch es p) (np : p ∉ es.map (·.1)) (hpar : ∀ T1, L8 T1 s lr sp st sd ep ss es m rev → CaP c T1 752 [.ref s, .int x.num, .str (parL p)] (d + 12) fun v T' => v = v0 ∧ L8 T' s lr sp st sd ep ss es1 m1 rev1 ∧ Upd T1.n (K8 s lr sd) T1 T') (hm : m1 < 40) (rc1 : Rch es1 (parL p)) (h : okC es1 (crC p [] false false x.num)) : CaP c T 752 [.ref s, .int x.num, .str p] (d + 13) fun v T' => v = .str p ∧ L8 T' s lr sp st sd ep ss (appE (rev1 + 1) es1 (crC p [] false false x.num)) (m1 + 1) (rev1 + 1) ∧ Upd T.n (K8 s lr sd) T T' := by
 obtain ⟨_, T1, h1, rfl, L1, u1⟩ := has8 ok hG (d := d + 5) (b := false) L mx hp rc (.inr ⟨rfl, np⟩)
 obtain ⟨_, T2, h2, rfl, u2⟩ := parent_ok ok hG (d := d + 10) (T := T1) hp ne
 obtain ⟨_, T3, h3, rfl, L3, u3⟩ := hpar T2 (L1.new u2)
 obtain ⟨_, T4, h4, rfl, L4, u4⟩ := create8 ok hG (d := d) (k := 0) (p := p) (q := p) (data := []) (van := false) (num := false) (args := [.ref s, .int x.num, .str p]) rfl L3 hm mx hp ne rc1 (.inl ⟨rfl, rfl⟩) rfl h
 obtain ⟨sf, rows, X, _⟩ := L.X
 have hs := X.hs
 obtain ⟨sf3, rows3, X3, _⟩ := L3.X
 have hs3 := X3.hs
 refine C_funQ ok (l := [(440023414132, _), (126883592042095, _), (1769300593, _)]) (tF hG rfl) rfl fun Qz hQ => ?_
 apply X_consP
 apply S_if
 apply T_andP
 apply Ts_goP
 apply T_cmpP
 refine E_loc rfl ?_
 apply E_str
 refine k_cm true (C_ne (t := false) (pq_no ne)) ?_
 apply k_ye
 apply Ts_goP
 apply T_notP
 refine T_plainP rfl ?_
 apply E_lm ok
 exact rfl
 ·(with_reducible repeat' first | assumption | exact get_new _ _ | apply get_put | apply get_old | refine get_nf (by assumption) ?_ | apply get_kd | with_unfolding_all rfl)
 exact tM hG rfl
 exact rfl
 refine Es_loc rfl ?_
 refine Es_loc rfl ?_
 apply Es_nil
 refine k_ca (h1) ?_
 apply k_bl
 apply k_ye
 apply Ts_nilP
 apply X_consP
 apply S_expr
 refine E_callF ok (tG hG rfl) (tF hG rfl) ?_
 refine Es_loc rfl ?_
 refine Es_loc rfl ?_
 apply Es_cons
 refine E_callF ok (tG hG rfl) (tF hG rfl) ?_
 refine Es_loc rfl ?_
 apply Es_nil
 refine k_ca (h2) ?_
 apply Es_nil
 refine k_ca (h3) ?_
 apply X_consP
 apply S_expr
 apply E_lm ok
 exact rfl
 ·(with_reducible repeat' first | assumption | exact get_new _ _ | apply get_put | apply get_old | refine get_nf (by assumption) ?_ | apply get_kd | with_unfolding_all rfl)
 exact tM hG rfl
 exact rfl
 refine Es_loc rfl ?_
 refine Es_loc rfl ?_
 apply Es_nil
 refine k_ca (h4) ?_
 apply X_nilP
 apply X_consP
 apply S_ret
 refine E_loc rfl ?_
 apply hQ
 exact ⟨rfl, L4, ((u1.then u2.a u1.1).then u3 (Nat.le_trans u1.1 u2.1)).then u4 (Nat.le_trans u1.1 (Nat.le_trans u2.1 u3.1))⟩
end
noncomputable abbrev pL : List Nat := [47, 108, 111, 99, 107, 115]
noncomputable abbrev pO : List Nat := [47, 108, 111, 99, 107, 115, 47, 111, 110, 101]
noncomputable abbrev plB : List Nat := [47, 108, 111, 99, 107, 115, 47, 111, 110, 101, 47, 112, 108, 97, 99, 101, 45]
noncomputable def plc (c : Nat) : List Nat := numL plB c
noncomputable def nmC (c : Nat) : List Nat := numL [112, 108, 97, 99, 101, 45] c
theorem plc_facts : ∀ c : Fin 10, okP (plc c) = true ∧ plc c ≠ [47] ∧ parL (plc c) = pO ∧ lastL (plc c) = nmC c ∧ pO ++ [47] ++ nmC c = plc c ∧ ([112, 108, 97, 99, 101, 45]).isPrefixOf (nmC c) = true ∧ (plc c).length ≤ 300 ∧ (plc c).drop ((plc c).length - 10) = ten c ∧ (ten c).all (fun b => decide (48 ≤ b ∧ b ≤ 57)) = true ∧ (nmC c).length = 16 := by decide +kernel
theorem plc_ne : ∀ c : Fin 10, plc c ≠ pO ∧ plc c ≠ pL ∧ ∀ c' : Fin 10, (plc c = plc c' → c.val = c'.val) ∧ (c.val < c'.val → slt (nmC c') (nmC c) = false) := by decide +kernel
theorem b_facts : okP pO = true ∧ okP pL = true ∧ okP plB = true ∧ parL plB = pO ∧ plB ≠ [47] ∧ parL pO = pL ∧ parL pL = [47] ∧ pO ≠ [47] ∧ pL ≠ [47] ∧ pO ≠ pL ∧ okP [47] = true ∧ plB.length ≤ 200 := by decide +kernel
theorem sp_inj {a b : Nat} (h : (a : Int) + 1 = (b : Int) + 1) : a = b := Nat.succ.inj (Int.ofNat_inj.mp h)
structure Pl where
 c : Nat
 sp : Nat
 ma : Int
noncomputable abbrev Pl.e (t : Pl) : En := ⟨.str [], 0, 0, .int ((t.sp : Int) + 1), .none, .none, 0, t.ma, t.ma⟩
noncomputable abbrev Pl.pe (t : Pl) : List Nat × En := (plc t.c, t.e)
noncomputable abbrev Pl.pv (t : Pl) : AV := .str (plc t.c)
structure Q8 (q : List Pl) (C : Nat) (rev : Int) : Prop where
 c10 : C ≤ 10
 lt : ∀ t ∈ q, t.c < C
 inc : q.Pairwise fun a b => a.c < b.c ∧ a.ma < b.ma
 sp3 : ∀ t ∈ q, t.sp < 3
 nd : (q.map Pl.sp).Nodup
 mr : ∀ t ∈ q, t.ma ≤ rev
 len : q.length ≤ C
noncomputable abbrev PlE (e : En) : Prop := e.own = .none ∧ e.lea = .none
structure Bs (es : Es) (q : List Pl) (C : Nat) : Prop where
 eq : ∃ e0 e1 e2, es = ([47], e0) :: (pL, e1) :: (pO, e2) :: q.map Pl.pe ∧ e0.rig = .obj 147 ∧ e1.rig = .none ∧ e2.rig = .none ∧ PlE e0 ∧ PlE e1 ∧ PlE e2 ∧ e2.cnt = (C : Int)
theorem Q8.c {q : List Pl} {C : Nat} {rev : Int} (Q : Q8 q C rev) {t : Pl} (m : t ∈ q) : t.c < 10 := Nat.lt_of_lt_of_le (Q.lt t m) Q.c10
section
variable {es : Es} {q : List Pl} {C : Nat} {rev : Int}
theorem Bs.ok (B : Bs es q C) (Q : Q8 q C rev) : ∀ r ∈ es, OkP r.1 := by
 obtain ⟨e0, e1, e2, rfl, _⟩ := B.eq
 intro r m
 cases m with
 | head => exact okP_of b_facts.2.2.2.2.2.2.2.2.2.2.1
 | tail _ m => cases m with
  | head => exact okP_of b_facts.2.1
  | tail _ m => cases m with
   | head => exact okP_of b_facts.1
   | tail _ m =>
    obtain ⟨t, mt, rfl⟩ := List.mem_map.mp m
    exact okP_of (plc_facts ⟨t.c, Q.c mt⟩).1
theorem Bs.rO (B : Bs es q C) : Rch es pO := by
 obtain ⟨e0, e1, e2, rfl, h0, h1, h2, _⟩ := B.eq
 refine .up (okP_of b_facts.1) b_facts.2.2.2.2.2.2.2.1 (.inr ⟨e2, .tail _ (.tail _ (.head _)), h2⟩) ?_
 rw [b_facts.2.2.2.2.2.1]
 refine .up (okP_of b_facts.2.1) b_facts.2.2.2.2.2.2.2.2.1 (.inr ⟨e1, .tail _ (.head _), h1⟩) ?_
 rw [b_facts.2.2.2.2.2.2.1]
 exact .here (.head _) h0
theorem Bs.mO (B : Bs es q C) : ∃ e, (pO, e) ∈ es ∧ PlE e ∧ e.cnt = (C : Int) := by
 obtain ⟨e0, e1, e2, rfl, h0, h1, h2, h3, h4, h5, h6⟩ := B.eq
 exact ⟨e2, .tail _ (.tail _ (.head _)), h5, h6⟩
theorem Bs.mem (B : Bs es q C) {t : Pl} (m : t ∈ q) : (plc t.c, t.e) ∈ es := by
 obtain ⟨e0, e1, e2, rfl, _⟩ := B.eq
 exact .tail _ (.tail _ (.tail _ (List.mem_map_of_mem (f := Pl.pe) m)))
theorem Bs.ne (B : Bs es q C) : es ≠ [] := by
 obtain ⟨e0, e1, e2, rfl, _⟩ := B.eq
 exact List.cons_ne_nil _ _
theorem Bs.kids (B : Bs es q C) (Q : Q8 q C rev) : kidsL pO (es.map (·.1)) = q.map fun t => nmC t.c := by
 obtain ⟨e0, e1, e2, rfl, _⟩ := B.eq
 have h0 : kid pO [47] = false := rfl
 have h1 : kid pO pL = false := by decide +kernel
 have h2 : kid pO pO = false := by decide +kernel
 show ((([47] :: pL :: pO :: (q.map Pl.pe).map (·.1))).filter (kid pO)).map lastL = _
 rw [List.filter_cons_of_neg (by rw [h0]; exact Bool.false_ne_true), List.filter_cons_of_neg (by rw [h1]; exact Bool.false_ne_true), List.filter_cons_of_neg (by rw [h2]; exact Bool.false_ne_true), List.filter_eq_self.mpr, List.map_map, List.map_map]
 ·exact List.map_congr_left fun t m => (plc_facts ⟨t.c, Q.c m⟩).2.2.2.1
 ·intro p mp
  rw [List.map_map] at mp
  obtain ⟨t, mt, rfl⟩ := List.mem_map.mp mp
  obtain ⟨_, f1, f2, _⟩ := plc_facts ⟨t.c, Q.c mt⟩
  show (!decide (plc t.c = [47]) && decide (parL (plc t.c) = pO)) = true
  rw [decide_eq_false f1, decide_eq_true f2]; rfl
theorem Q8.srt (Q : Q8 q C rev) : Srt slt (q.map fun t => nmC t.c) := by
 refine List.pairwise_map.mpr (Q.inc.imp_of_mem fun {a b} ma mb h => ?_)
 exact ((plc_ne ⟨a.c, Q.c ma⟩).2.2 ⟨b.c, Q.c mb⟩).2 h.1
end
noncomputable abbrev liOb (s : Nat) : AO := .inst 810 [(440023414132, .ref s), (1769300593, .str pO)]
noncomputable abbrev p1V : PE := .call (.glb 549739878588327502966891) (.cons (.attr (.loc 1735222900) 1769300593) (.cons (.loc 1718510191) .nil))
noncomputable abbrev p1I : PEs := .cons (.meth (.loc 1718510191) k_startswith (.cons (.str [112, 108, 97, 99, 101, 45]) .nil)) .nil
noncomputable abbrev p2I : PEs := .cons (.and (.cons (.cmp .isnt (.call (.glb 1908112238605688010351) (.cons (.loc 1769300593) .nil)) .none) (.cons (.cmp .eq (.call (.glb 7300717) (.cons (.call (.glb 1970561645) (.cons (.loc 1769300593) .nil)) .nil)) (.int 16)) (.cons (.cmp .isnt (.attr (.meth (.attr (.attr (.loc 1735222900) 440023414132) 1717990261) 525923086182 (.cons (.loc 1769300593) .nil)) 495639820400) .none) .nil)))) .nil
section
variable {c : Cx} (ok : Ok c) (hG : c.G = G) {d s lr sp st sd ep m ln : Nat} {T0 : Hp} {ss : List Sn} {es : Es} {rev : Int} {x : Sn} {q : List Pl} {C : Nat} {sf : SF}
include ok hG
theorem pl_loop1 {src A : Nat} (hA : T0.n ≤ A) (h1 : 1 ≤ A) (Q : Q8 q C rev) (hln : T0.get ln = some (liOb s)) (hsrc : T0.get src = some (.list ((q.map fun t => nmC t.c).map .str))) (l : List Pl) : ∀ (pr : List Pl) (T : Hp) (loc : Loc), q = pr ++ l → Upd T0.n All T0 T → T.get A = some (.list (pr.map Pl.pv)) → lk loc 1735222900 = some (.ref ln) →
  CoP c (d + 2) loc T (.list p1V) A [1718510191] src .list pr.length p1I fun T' => T'.get A = some (.list (q.map Pl.pv)) ∧ Upd T0.n All T0 T' := by
 induction l with
 | nil =>
  intro pr T loc hx u ha hs
  rw [List.append_nil] at hx; subst hx
  exact Co_endP (turnL (u.get trivial hsrc) (by rw [List.map_map]; exact get_end _ _)) ⟨ha, u⟩
 | cons t l ih =>
  intro pr T loc hx u ha hs
  have mt : t ∈ q := hx ▸ List.mem_append_right _ (.head _)
  obtain ⟨f1, f2, f3, f4, f5, f6, f7, f8, f9, f10⟩ := plc_facts ⟨t.c, Q.c mt⟩
  have k1 : lk (pt loc 1718510191 (.str (nmC t.c))) 1718510191 = some (.str (nmC t.c)) := lk_same
  have k2 : lk (pt loc 1718510191 (.str (nmC t.c))) 1735222900 = some (.ref ln) := lk_else rfl hs
  obtain ⟨_, T1, hj, rfl, u1⟩ := join_ok ok hG (d := d) (T := T) (p := pO) (q := nmC t.c) b_facts.2.2.2.2.2.2.2.1 (by rw [f5]; exact okP_of f1) (lb rfl) (by rw [f10]; exact lb rfl)
  rw [f5] at hj
  have hln1 := u.get trivial hln
  have ha1 := u1.get trivial ha
  refine Co_listP (turnL (x := some (.str (nmC t.c))) (u.get trivial hsrc) (by rw [List.map_map, hx]; exact get_mid _ _ _ _)) bind_one ?_
  apply Te_goP
  refine T_plainP rfl ?_
  apply E_methB
  refine E_loc k1 ?_
  refine k_bg G_startswith ?_
  apply Es_cons; apply E_str; apply Es_nil
  refine k_bm M_startswith ?_
  rw [f6]
  apply k_bl; apply k_ye; apply Te_nilP; apply k_ye
  refine E_callF ok (tG hG rfl) (tF hG rfl) ?_
  apply Es_cons
  refine E_la ok k2 hln1 (tA hG rfl) rfl ?_
  refine Es_loc k1 ?_
  apply Es_nil
  refine k_ca hj ?_
  refine k_ap ha1 (by rw [List.length_map]; exact lt4 (Nat.le_trans (by rw [hx, List.length_append]; exact Nat.le_add_right _ _) (Nat.le_trans Q.len Q.c10)) rfl) h1 ?_
  have := ih (pr ++ [t]) _ (pt loc 1718510191 (.str (nmC t.c))) (by rw [hx, List.append_assoc]; rfl) ((u.then u1 u.1).put hA) (by rw [List.map_append]; exact get_put ha1) k2
  rw [List.length_append] at this
  exact this
theorem pl_loop2 {src A lo : Nat} (hA : T0.n ≤ A) (h1 : 1 ≤ A) (Q : Q8 q C rev) (B : Bs es q C) (hln : T0.get ln = some (liOb s)) (hs0 : T0.get s = some sf.ob) (tr : TreeAt T0 lo sf.tree es) (hsrc : T0.get src = some (.list (q.map Pl.pv))) (l : List Pl) : ∀ (pr : List Pl) (T : Hp) (loc : Loc), q = pr ++ l → Upd T0.n All T0 T → T.get A = some (.list (pr.map Pl.pv)) → lk loc 1735222900 = some (.ref ln) →
  CoP c (d + 2) loc T (.list (.loc 1769300593)) A [1769300593] src .list pr.length p2I fun T' => T'.get A = some (.list (q.map Pl.pv)) ∧ Upd T0.n All T0 T' := by
 induction l with
 | nil =>
  intro pr T loc hx u ha hs
  rw [List.append_nil] at hx; subst hx
  exact Co_endP (turnL (u.get trivial hsrc) (get_end _ _)) ⟨ha, u⟩
 | cons t l ih =>
  intro pr T loc hx u ha hs
  have mt : t ∈ q := hx ▸ List.mem_append_right _ (.head _)
  obtain ⟨f1, f2, f3, f4, f5, f6, f7, f8, f9, f10⟩ := plc_facts ⟨t.c, Q.c mt⟩
  have k1 : lk (pt loc 1769300593 (.str (plc t.c))) 1769300593 = some (.str (plc t.c)) := lk_same
  have k2 : lk (pt loc 1769300593 (.str (plc t.c))) 1735222900 = some (.ref ln) := lk_else rfl hs
  have hno := number_of_ok ok hG (d := d + 1) (T := T) (Nat.lt_trans (Q.c mt) (lb rfl)) f7 f8 f9
  obtain ⟨_, T1, hl, rfl, u1⟩ := last_ok ok hG (d := d) (T := T) (okP_of f1)
  rw [f4] at hl
  have u01 := u.then u1 u.1
  obtain ⟨r, he, ge⟩ := entry_yes ok hG (d := d + 1) (tr.all u01) (B.mem mt)
  obtain ⟨dr, ep9, xs, t3, hx3⟩ := tr.all u01
  have ht := t3.ht
  have hln1 := u01.get trivial hln
  have hs1 := u01.get trivial hs0
  have ha1 := u1.get trivial ha
  refine Co_listP (turnL (x := some (.str (plc t.c))) (u.get trivial hsrc) (by rw [hx]; exact get_mid _ _ _ _)) bind_one ?_
  apply Te_goP
  apply T_andP
  apply Ts_goP
  apply T_cmpP
  refine E_callF ok (tG hG rfl) (tF hG rfl) ?_
  refine Es_loc k1 ?_
  apply Es_nil
  refine k_ca (hno) ?_
  apply E_none
  refine k_cm true (by first | exact C_isnt0 | exact C_isnt1 rfl | exact C_isntT) ?_
  apply k_ye
  apply Ts_goP
  apply T_cmpP
  refine E_callB ok (tG hG rfl) (by first | exact .inl ⟨_, rfl⟩ | exact .inr ⟨_, rfl⟩) ?_
  apply Es_cons
  refine E_callF ok (tG hG rfl) (tF hG rfl) ?_
  refine Es_loc k1 ?_
  apply Es_nil
  refine k_ca (hl) ?_
  apply Es_nil
  refine k_bc (B_lenS (by rw [f10]; exact lb rfl)) ?_
  apply E_int
  refine k_cm true (C_eq (by rw [f10]; rfl)) ?_
  apply k_ye
  apply Ts_goP
  apply T_cmpP
  apply E_attr ok
  apply E_meth ok
  apply E_attr ok
  apply E_la ok
  exact k2
  ·(with_reducible repeat' first | assumption | exact get_new _ _ | apply get_put | apply get_old | refine get_nf (by assumption) ?_ | apply get_kd | with_unfolding_all rfl)
  exact tA hG rfl
  exact rfl
  apply k_at2
  ·(with_reducible repeat' first | assumption | exact get_new _ _ | apply get_put | apply get_old | refine get_nf (by assumption) ?_ | apply get_kd | with_unfolding_all rfl)
  exact tA hG rfl
  exact rfl
  apply k_mt2
  ·(with_reducible repeat' first | assumption | exact get_new _ _ | apply get_put | apply get_old | refine get_nf (by assumption) ?_ | apply get_kd | with_unfolding_all rfl)
  exact tM hG rfl
  exact rfl
  refine Es_loc k1 ?_
  apply Es_nil
  refine k_ca (he) ?_
  apply k_at2
  ·(with_reducible repeat' first | assumption | exact get_new _ _ | apply get_put | apply get_old | refine get_nf (by assumption) ?_ | apply get_kd | with_unfolding_all rfl)
  exact tA hG rfl
  exact rfl
  apply E_none
  refine k_cm true (by first | exact C_isnt0 | exact C_isnt1 rfl | exact C_isntT) ?_
  apply k_ye
  apply Ts_nilP
  apply k_ye
  apply Te_nilP
  apply k_ye
  refine E_loc k1 ?_
  apply k_ap
  exact ha1
  rw [List.length_map]; exact lt4 (Nat.le_trans (by rw [hx, List.length_append]; exact Nat.le_add_right _ _) (Nat.le_trans Q.len Q.c10)) rfl
  first | assumption | exact Nat.le_add_left 1 _ | exact lb rfl
  have := ih (pr ++ [t]) _ (pt loc 1769300593 (.str (plc t.c))) (by rw [hx, List.append_assoc]; rfl) (u01.put hA) (by rw [List.map_append]; exact get_put ha1) k2
  rw [List.length_append] at this
  exact this
theorem places8 {T : Hp} (L : L8 T s lr sp st sd ep ss es m rev) (mx : x ∈ ss) (Q : Q8 q C rev) (B : Bs es q C) (hln : T.get ln = some (liOb s)) : CaP c T 771 [.ref ln, .int x.num] (d + 8) fun v T' => ∃ r, v = .ref r ∧ T'.get r = some (.list (q.map Pl.pv)) ∧ L8 T' s lr sp st sd ep ss es m rev ∧ Upd T.n (K8 s lr sd) T T' := by
 obtain ⟨sf, rows, X, _, e, _⟩ := id L.X
 obtain ⟨eO, mO, _, _⟩ := B.mO
 obtain ⟨_, T1, h1, rfl, L1, u1⟩ := has8 ok hG (d := d) (b := true) L mx (okP_of b_facts.1) B.rO (.inl ⟨rfl, eO, mO⟩)
 have kl : ∀ {T' : Hp}, Upd T.n (K8 s lr sd) T T' → T'.get ln = some (liOb s) := fun u => u.get ⟨ne_kd X.hs hln rfl, ne_kd X.hr hln rfl, ne_kd L.se.hd hln rfl, rfl⟩ hln
 have hln1 := kl u1
 obtain ⟨_, T2, h2, r2, rfl, g2, L2, u2⟩ := children8 ok hG (d := d) L1 mx (okP_of b_facts.1) B.rO mO (B.ok Q) (by rw [B.kids Q]) Q.srt
 have u12 := u1.then u2 u1.1
 have hln2 := kl u12
 obtain ⟨T3, h3, g3, u3⟩ := pl_loop1 ok hG (d := d + 5) (T0 := T2) (A := T2.n) (Nat.le_refl _) L2.pn Q hln2 g2 q [] (hnew T2 (.list [])) (rm [k_dot0, 1718510191] [(1735222900, .ref ln), (126883592042095, .int x.num)]) rfl Upd.refl.new (get_new _ _) rfl
 have L3 := L2.new u3
 obtain ⟨sf3, rows3, X3, _⟩ := L3.X
 obtain ⟨T4, h4, g4, u4⟩ := pl_loop2 ok hG (d := d + 5) (T0 := T3) (A := T3.n) (lo := 1) (Nat.le_refl _) L3.pn Q B (u3.get trivial hln2) X3.hs X3.tr g3 q [] (hnew T3 (.list [])) (rm [k_dot0, 1769300593] [(1735222900, .ref ln), (126883592042095, .int x.num), (499985506929, .ref T2.n)]) rfl Upd.refl.new (get_new _ _) rfl
 have hs := X.hs
 obtain ⟨sf1, rows1, X1, _⟩ := L1.X
 have hs1 := X1.hs
 refine C_funQ ok (l := [(1735222900, _), (126883592042095, _)]) (tF hG rfl) rfl fun Qz hQ => ?_
 apply X_consP
 apply S_if
 apply T_notP
 refine T_plainP rfl ?_
 apply E_meth ok
 apply E_la ok
 exact rfl
 ·(with_reducible repeat' first | assumption | exact get_new _ _ | apply get_put | apply get_old | refine get_nf (by assumption) ?_ | apply get_kd | with_unfolding_all rfl)
 exact tA hG rfl
 exact rfl
 apply k_mt2
 ·(with_reducible repeat' first | assumption | exact get_new _ _ | apply get_put | apply get_old | refine get_nf (by assumption) ?_ | apply get_kd | with_unfolding_all rfl)
 exact tM hG rfl
 exact rfl
 refine Es_loc rfl ?_
 apply Es_cons
 apply E_la ok
 exact rfl
 ·(with_reducible repeat' first | assumption | exact get_new _ _ | apply get_put | apply get_old | refine get_nf (by assumption) ?_ | apply get_kd | with_unfolding_all rfl)
 exact tA hG rfl
 exact rfl
 apply Es_nil
 refine k_ca (h1) ?_
 apply k_bl
 apply X_nilP
 apply X_consP
 apply S_asgC
 apply E_meth ok
 apply E_la ok
 exact rfl
 ·(with_reducible repeat' first | assumption | exact get_new _ _ | apply get_put | apply get_old | refine get_nf (by assumption) ?_ | apply get_kd | with_unfolding_all rfl)
 exact tA hG rfl
 exact rfl
 apply k_mt2
 ·(with_reducible repeat' first | assumption | exact get_new _ _ | apply get_put | apply get_old | refine get_nf (by assumption) ?_ | apply get_kd | with_unfolding_all rfl)
 exact tM hG rfl
 exact rfl
 refine Es_loc rfl ?_
 apply Es_cons
 apply E_la ok
 exact rfl
 ·(with_reducible repeat' first | assumption | exact get_new _ _ | apply get_put | apply get_old | refine get_nf (by assumption) ?_ | apply get_kd | with_unfolding_all rfl)
 exact tA hG rfl
 exact rfl
 apply Es_nil
 refine k_ca (h2) ?_
 refine k_ik (ikL g2) ?_
 refine k_co (h3) ?_
 apply X_consP
 apply S_ret
 apply E_listc
 refine E_loc rfl ?_
 refine k_ik (ikL g3) ?_
 refine k_co (h4) ?_
 apply hQ
 exact ⟨_, rfl, g4, L3.new u4, (u12.then u3.a u12.1).then u4.a (Nat.le_trans u12.1 u3.1)⟩
theorem places0 {T : Hp} (L : L8 T s lr sp st sd ep ss es00 m rev) (mx : x ∈ ss) (hln : T.get ln = some (liOb s)) : CaP c T 771 [.ref ln, .int x.num] (d + 8) fun v T' => ∃ r, v = .ref r ∧ T'.get r = some (.list []) ∧ L8 T' s lr sp st sd ep ss es00 m rev ∧ Upd T.n (K8 s lr sd) T T' := by
 obtain ⟨sf, rows, X, _, e, _⟩ := id L.X
 have rc : Rch es00 pO := by
  refine .up (okP_of b_facts.1) b_facts.2.2.2.2.2.2.2.1 (.inl (show pO ∉ [[47]] by decide +kernel)) ?_
  rw [b_facts.2.2.2.2.2.1]
  refine .up (okP_of b_facts.2.1) b_facts.2.2.2.2.2.2.2.2.1 (.inl (show pL ∉ [[47]] by decide +kernel)) ?_
  rw [b_facts.2.2.2.2.2.2.1]
  exact .here (.head _) rfl
 obtain ⟨_, T1, h1, rfl, L1, u1⟩ := has8 ok hG (d := d) (b := false) L mx (okP_of b_facts.1) rc (.inr ⟨rfl, show pO ∉ [[47]] by decide +kernel⟩)
 have hs := X.hs
 refine C_funQ ok (l := [(1735222900, _), (126883592042095, _)]) (tF hG rfl) rfl fun Qz hQ => ?_
 apply X_consP
 apply S_if
 apply T_notP
 refine T_plainP rfl ?_
 apply E_meth ok
 apply E_la ok
 exact rfl
 ·(with_reducible repeat' first | assumption | exact get_new _ _ | apply get_put | apply get_old | refine get_nf (by assumption) ?_ | apply get_kd | with_unfolding_all rfl)
 exact tA hG rfl
 exact rfl
 apply k_mt2
 ·(with_reducible repeat' first | assumption | exact get_new _ _ | apply get_put | apply get_old | refine get_nf (by assumption) ?_ | apply get_kd | with_unfolding_all rfl)
 exact tM hG rfl
 exact rfl
 refine Es_loc rfl ?_
 apply Es_cons
 apply E_la ok
 exact rfl
 ·(with_reducible repeat' first | assumption | exact get_new _ _ | apply get_put | apply get_old | refine get_nf (by assumption) ?_ | apply get_kd | with_unfolding_all rfl)
 exact tA hG rfl
 exact rfl
 apply Es_nil
 refine k_ca (h1) ?_
 apply k_bl
 apply X_consP
 apply S_ret
 apply E_list
 apply Es_nil
 refine k_sh (lb rfl) ?_
 apply hQ
 exact ⟨_, rfl, get_new _ _, L1.new Upd.refl.new, u1.new⟩
end
section
variable {es : Es} {q : List Pl} {C : Nat} {rev r : Int}
theorem up_no {p : List Nat} {f : En → En} {a : Es} (h : ∀ x ∈ a, x.1 ≠ p) : upE p f a = a := by
 unfold upE
 exact (List.map_congr_left fun x m => if_neg (h x m)).trans (List.map_id _)
theorem Q8.noO (Q : Q8 q C rev) : ∀ x ∈ q.map Pl.pe, x.1 ≠ pO := by
 intro x m
 obtain ⟨t, mt, rfl⟩ := List.mem_map.mp m
 exact (plc_ne ⟨t.c, Q.c mt⟩).1
theorem up_base {e0 e1 e2 : En} {f : En → En} (Q : Q8 q C rev) : upE pO f (([47], e0) :: (pL, e1) :: (pO, e2) :: q.map Pl.pe) = ([47], e0) :: (pL, e1) :: (pO, f e2) :: q.map Pl.pe := by
 have h := up_no (f := f) Q.noO
 show (if [47] = pO then _ else _) :: (if pL = pO then _ else _) :: (if pO = pO then _ else _) :: upE pO f (q.map Pl.pe) = _
 rw [h, if_neg fun e => b_facts.2.2.2.2.2.2.2.1 e.symm, if_neg fun e => b_facts.2.2.2.2.2.2.2.2.2.1 e.symm, if_pos rfl]
theorem Bs.add {sp : Nat} (B : Bs es q C) (Q : Q8 q C rev) (hC : C < 10) : Bs (appE r es (crC (plc C) [] true true ((sp : Int) + 1))) (q ++ [⟨C, sp, r⟩]) (C + 1) := by
 obtain ⟨e0, e1, e2, rfl, h0, h1, h2, h3, h4, h5, h6⟩ := B.eq
 refine ⟨e0, e1, bump true e2, ?_, h0, h1, h2, h3, h4, h5, ?_⟩
 ·show upE (parL (plc C)) (bump true) _ ++ [_] = _
  rw [(plc_facts ⟨C, hC⟩).2.2.1, up_base Q, List.map_append]; rfl
 ·show e2.cnt + 1 = _
  rw [h6]; rfl
theorem Q8.add {sp : Nat} (Q : Q8 q C rev) (hC : C < 10) (h3 : sp < 3) (nsp : sp ∉ q.map Pl.sp) : Q8 (q ++ [⟨C, sp, rev + 1⟩]) (C + 1) (rev + 1) := by
 refine ⟨hC, fun t m => ?_, ?_, fun t m => ?_, ?_, fun t m => ?_, ?_⟩
 ·rcases List.mem_append.mp m with m | m
  ·exact Nat.lt_succ_of_lt (Q.lt t m)
  ·cases List.mem_singleton.mp m; exact Nat.lt_succ_self _
 ·refine List.pairwise_append.mpr ⟨Q.inc, List.pairwise_cons.mpr ⟨fun _ h => (by cases h), .nil⟩, fun a ma b mb => ?_⟩
  cases List.mem_singleton.mp mb
  exact ⟨Q.lt a ma, Int.lt_add_one_of_le (Q.mr a ma)⟩
 ·rcases List.mem_append.mp m with m | m
  ·exact Q.sp3 t m
  ·cases List.mem_singleton.mp m; exact h3
 ·rw [List.map_append, List.nodup_append]
  refine ⟨Q.nd, nd1, fun a ha b hb => ?_⟩
  cases List.mem_singleton.mp hb
  exact fun e => nsp ((show a = sp from e) ▸ ha)
 ·rcases List.mem_append.mp m with m | m
  ·exact Int.le_trans (Q.mr t m) (Int.le_add_one (Int.le_refl _))
  ·cases List.mem_singleton.mp m; exact Int.le_refl _
 ·rw [List.length_append]; exact Nat.succ_le_succ Q.len
theorem Q8.new (Q : Q8 q C rev) (B : Bs es q C) (hC : C < 10) : plc C ∉ es.map (·.1) := by
 obtain ⟨e0, e1, e2, rfl, _⟩ := B.eq
 obtain ⟨n1, n2, n3⟩ := plc_ne ⟨C, hC⟩
 intro m
 cases m with
 | tail _ m => cases m with
  | tail _ m => cases m with
   | tail _ m =>
    rw [List.map_map] at m
    obtain ⟨t, mt, e⟩ := List.mem_map.mp m
    exact Nat.ne_of_gt (Q.lt t mt) ((n3 ⟨t.c, Q.c mt⟩).1 e.symm)
theorem Bs.len (B : Bs es q C) (Q : Q8 q C rev) : es.length ≤ 13 := by
 obtain ⟨e0, e1, e2, rfl, _⟩ := B.eq
 show (q.map Pl.pe).length + 3 ≤ 13
 rw [List.length_map]
 exact Nat.add_le_add_right (Nat.le_trans Q.len Q.c10) 3
theorem Bs.okAdd {sp : Nat} (B : Bs es q C) (Q : Q8 q C rev) (hC : C < 10) : okC es (crC (plc C) [] true true ((sp : Int) + 1)) := by
 obtain ⟨f1, f2, f3, _⟩ := plc_facts ⟨C, hC⟩
 obtain ⟨e, m, h, _⟩ := B.mO
 exact ⟨okP_of f1, f2, Q.new B hC, Nat.lt_of_le_of_lt (B.len Q) (lb rfl), e, by rw [f3]; exact m, h.1, h.2⟩
noncomputable def rmQ (c : Nat) (q : List Pl) : List Pl := q.filter fun t => !decide (t.c = c)
theorem Q8.same (Q : Q8 q C rev) {t u : Pl} (mt : t ∈ q) (mu : u ∈ q) (e : t.c = u.c) : t = u := by
 have inc := Q.inc
 clear Q
 induction q with
 | nil => cases mt
 | cons y q ih =>
  have inc := List.pairwise_cons.mp inc
  cases mt with
  | head => cases mu with
   | head => rfl
   | tail _ m => exact absurd e (Nat.ne_of_lt (inc.1 _ m).1)
  | tail _ m => cases mu with
   | head => exact absurd e (Nat.ne_of_gt (inc.1 _ m).1)
   | tail _ m2 => exact ih m m2 inc.2
theorem Bs.del (B : Bs es q C) (Q : Q8 q C rev) {t : Pl} (mt : t ∈ q) : Bs (appE r es (.delete (plc t.c))) (rmQ t.c q) C := by
 obtain ⟨e0, e1, e2, rfl, h0, h1, h2, h3, h4, h5, h6⟩ := B.eq
 obtain ⟨f1, f2, f3, _⟩ := plc_facts ⟨t.c, Q.c mt⟩
 obtain ⟨n1, n2, n3⟩ := plc_ne ⟨t.c, Q.c mt⟩
 refine ⟨e0, e1, bump false e2, ?_, h0, h1, h2, h3, h4, h5, h6⟩
 have Q2 : ∀ x ∈ (rmQ t.c q).map Pl.pe, x.1 ≠ pO := fun x m => by
  obtain ⟨u, mu, rfl⟩ := List.mem_map.mp m
  exact (plc_ne ⟨u.c, Q.c (List.mem_filter.mp mu).1⟩).1
 have hd : delE (plc t.c) (([47], e0) :: (pL, e1) :: (pO, e2) :: q.map Pl.pe) = ([47], e0) :: (pL, e1) :: (pO, e2) :: (rmQ t.c q).map Pl.pe := by
  unfold delE
  rw [List.filter_cons_of_pos (by rw [decide_eq_false fun e => f2 (Eq.symm e)]; rfl), List.filter_cons_of_pos (by rw [decide_eq_false fun e => n2 (Eq.symm e)]; rfl), List.filter_cons_of_pos (by rw [decide_eq_false fun e => n1 (Eq.symm e)]; rfl), List.filter_map]
  unfold rmQ
  congr 4
  refine List.filter_congr fun u mu => ?_
  show (!decide (plc u.c = plc t.c)) = !decide (u.c = t.c)
  by_cases e : u.c = t.c
  ·rw [e]
   rw [decide_eq_true rfl, decide_eq_true rfl]
  ·rw [decide_eq_false e, decide_eq_false fun z => e (((plc_ne ⟨u.c, Q.c mu⟩).2.2 ⟨t.c, Q.c mt⟩).1 z)]
 show upE (parL (plc t.c)) (bump false) (delE _ _) = _
 rw [f3, hd]
 have h := up_no (f := bump false) Q2
 show (if [47] = pO then _ else _) :: (if pL = pO then _ else _) :: (if pO = pO then _ else _) :: upE pO (bump false) ((rmQ t.c q).map Pl.pe) = _
 rw [h, if_neg fun e => b_facts.2.2.2.2.2.2.2.1 e.symm, if_neg fun e => b_facts.2.2.2.2.2.2.2.2.2.1 e.symm, if_pos rfl]
theorem Q8.del (Q : Q8 q C rev) (c : Nat) (h : rev ≤ r) : Q8 (rmQ c q) C r := by
 have sb : (rmQ c q).Sublist q := List.filter_sublist
 exact ⟨Q.c10, fun t m => Q.lt t (sb.subset m), Q.inc.sublist sb, fun t m => Q.sp3 t (sb.subset m), (sb.map _).nodup Q.nd, fun t m => Int.le_trans (Q.mr t (sb.subset m)) h, Nat.le_trans sb.length_le Q.len⟩
theorem Bs.okDel (B : Bs es q C) (Q : Q8 q C rev) {t : Pl} (mt : t ∈ q) : okC es (.delete (plc t.c)) := by
 obtain ⟨f1, f2, f3, _⟩ := plc_facts ⟨t.c, Q.c mt⟩
 obtain ⟨n1, n2, n3⟩ := plc_ne ⟨t.c, Q.c mt⟩
 obtain ⟨e, m, h, _⟩ := B.mO
 refine ⟨okP_of f1, f2, ⟨_, B.mem mt⟩, ?_, B.ok Q, by rw [f3]; exact fun e => n1 e.symm, e, by rw [f3]; exact m⟩
 unfold kidsL
 rw [List.filter_eq_nil_iff.mpr]
 ·rfl
 ·obtain ⟨e0, e1, e2, rfl, _⟩ := B.eq
  intro p mp hk
  unfold kid at hk
  rw [Bool.and_eq_true] at hk
  have pq := of_decide_eq_true hk.2
  cases mp with
  | head => cases hk.1
  | tail _ mp => cases mp with
   | head => rw [show parL pL = [47] from b_facts.2.2.2.2.2.2.1] at pq; exact f2 pq.symm
   | tail _ mp => cases mp with
    | head => rw [show parL pO = pL from b_facts.2.2.2.2.2.1] at pq; exact n2 pq.symm
    | tail _ mp =>
     rw [List.map_map] at mp
     obtain ⟨u, mu, rfl⟩ := List.mem_map.mp mp
     exact n1 (pq.symm.trans (plc_facts ⟨u.c, Q.c mu⟩).2.2.1)
theorem Bs.rP (B : Bs es q C) (Q : Q8 q C rev) {t : Pl} (mt : t ∈ q) : Rch es (plc t.c) := by
 obtain ⟨f1, f2, f3, _⟩ := plc_facts ⟨t.c, Q.c mt⟩
 refine .up (okP_of f1) f2 (.inr ⟨_, B.mem mt, rfl⟩) ?_
 rw [f3]; exact B.rO
noncomputable def WS (es : Es) (q : List Pl) (C : Nat) : Prop := (es = es00 ∧ q = [] ∧ C = 0) ∨ Bs es q C
end
noncomputable abbrev plaB : PSs := (.cons (.ite (.cmp .eq (.attr (.meth (.attr (.attr (.loc 1735222900) 440023414132) 1717990261) 525923086182 (.cons (.loc 1769300593) .nil)) 495639820400) (.loc 126883592042095)) (.cons (.ret (.loc 1769300593)) .nil) .nil) .nil)
theorem L8.kl {T T' : Hp} {s lr sp st sd ep m n : Nat} {ss : List Sn} {es : Es} {rev : Int} (L : L8 T s lr sp st sd ep ss es m rev) (hln : T.get n = some (liOb s)) (u : Upd T.n (K8 s lr sd) T T') : T'.get n = some (liOb s) := by
 obtain ⟨sf, rows, X, _⟩ := L.X
 exact u.get ⟨ne_kd X.hs hln rfl, ne_kd X.hr hln rfl, ne_kd L.se.hd hln rfl, rfl⟩ hln
theorem WS.mem {es : Es} {q : List Pl} {C : Nat} (W : WS es q C) : ∀ t ∈ q, (plc t.c, t.e) ∈ es := by
 rcases W with ⟨rfl, rfl, rfl⟩ | B
 ·exact fun t m => by cases m
 ·exact fun t m => B.mem m
section
variable {c : Cx} (ok : Ok c) (hG : c.G = G) {d s lr sp st sd ep m ln : Nat} {T : Hp} {ss : List Sn} {es : Es} {rev : Int} {x : Sn} {q : List Pl} {C : Nat} {sf : SF}
include ok hG
theorem placesW (L : L8 T s lr sp st sd ep ss es m rev) (mx : x ∈ ss) (Q : Q8 q C rev) (W : WS es q C) (hln : T.get ln = some (liOb s)) : CaP c T 771 [.ref ln, .int x.num] (d + 8) fun v T' => ∃ r, v = .ref r ∧ T'.get r = some (.list (q.map Pl.pv)) ∧ L8 T' s lr sp st sd ep ss es m rev ∧ Upd T.n (K8 s lr sd) T T' := by
 rcases W with ⟨rfl, rfl, rfl⟩ | B
 ·exact places0 ok hG L mx hln
 ·exact places8 ok hG L mx Q B hln
theorem place_loop {src lo : Nat} {num : Int} (Q : Q8 q C rev) (B : ∀ t ∈ q, (plc t.c, t.e) ∈ es) (hln : T.get ln = some (liOb s)) (hs : T.get s = some sf.ob) (tr : TreeAt T lo sf.tree es) (hsrc : T.get src = some (.list (q.map Pl.pv))) (l : List Pl) : ∀ (pr : List Pl) (loc : Loc), q = pr ++ l → lk loc 1735222900 = some (.ref ln) → lk loc 126883592042095 = some (.int num) →
  LoP c (d + 1) loc T [1769300593] src .list pr.length plaB (fun l' T' => T' = T ∧ (∀ t ∈ l, ((t.sp : Int) + 1) ≠ num)) (fun v T' => T' = T ∧ ∃ t ∈ l, v = .str (plc t.c) ∧ ((t.sp : Int) + 1) = num) := by
 induction l with
 | nil =>
  intro pr loc hx h1 h2
  rw [List.append_nil] at hx; subst hx
  exact L_endP (turnL hsrc (get_end _ _)) ⟨rfl, fun t m => (by cases m)⟩
 | cons t l ih =>
  intro pr loc hx h1 h2
  have mt : t ∈ q := hx ▸ List.mem_append_right _ (.head _)
  obtain ⟨r, he, ge⟩ := entry_yes ok hG (d := d) tr (B t mt)
  obtain ⟨dr, ep9, xs, t3, hx3⟩ := id tr
  have ht := t3.ht
  have ih := ih (pr ++ [t]) (pt loc 1769300593 (.str (plc t.c))) (by rw [hx, List.append_assoc]; rfl) (lk_else rfl h1) (lk_else rfl h2)
  rw [List.length_append] at ih
  refine L_nextP (turnL (x := some (.str (plc t.c))) hsrc (by rw [hx]; exact get_mid _ _ _ _)) bind_one ?_
  by_cases z : ((t.sp : Int) + 1) = num
  ·skip
   apply X_consP
   apply S_if
   apply T_cmpP
   apply E_attr ok
   apply E_meth ok
   apply E_attr ok
   apply E_la ok
   exact (by with_reducible repeat' first | assumption | exact lk_same | apply lk_else | with_unfolding_all rfl)
   ·(with_reducible repeat' first | assumption | exact get_new _ _ | apply get_put | apply get_old | refine get_nf (by assumption) ?_ | apply get_kd | with_unfolding_all rfl)
   exact tA hG rfl
   exact rfl
   apply k_at2
   ·(with_reducible repeat' first | assumption | exact get_new _ _ | apply get_put | apply get_old | refine get_nf (by assumption) ?_ | apply get_kd | with_unfolding_all rfl)
   exact tA hG rfl
   exact rfl
   apply k_mt2
   ·(with_reducible repeat' first | assumption | exact get_new _ _ | apply get_put | apply get_old | refine get_nf (by assumption) ?_ | apply get_kd | with_unfolding_all rfl)
   exact tM hG rfl
   exact rfl
   refine Es_loc (by with_reducible repeat' first | assumption | exact lk_same | apply lk_else | with_unfolding_all rfl) ?_
   apply Es_nil
   refine k_ca (he) ?_
   apply k_at2
   ·(with_reducible repeat' first | assumption | exact get_new _ _ | apply get_put | apply get_old | refine get_nf (by assumption) ?_ | apply get_kd | with_unfolding_all rfl)
   exact tA hG rfl
   exact rfl
   refine E_loc (by with_reducible repeat' first | assumption | exact lk_same | apply lk_else | with_unfolding_all rfl) ?_
   refine k_cm true (C_eq (congrArg some (decide_eq_true z))) ?_
   apply X_consP
   apply S_ret
   refine E_loc (by with_reducible repeat' first | assumption | exact lk_same | apply lk_else | with_unfolding_all rfl) ?_
   exact ⟨rfl, t, .head _, rfl, z⟩
  ·skip
   apply X_consP
   apply S_if
   apply T_cmpP
   apply E_attr ok
   apply E_meth ok
   apply E_attr ok
   apply E_la ok
   exact (by with_reducible repeat' first | assumption | exact lk_same | apply lk_else | with_unfolding_all rfl)
   ·(with_reducible repeat' first | assumption | exact get_new _ _ | apply get_put | apply get_old | refine get_nf (by assumption) ?_ | apply get_kd | with_unfolding_all rfl)
   exact tA hG rfl
   exact rfl
   apply k_at2
   ·(with_reducible repeat' first | assumption | exact get_new _ _ | apply get_put | apply get_old | refine get_nf (by assumption) ?_ | apply get_kd | with_unfolding_all rfl)
   exact tA hG rfl
   exact rfl
   apply k_mt2
   ·(with_reducible repeat' first | assumption | exact get_new _ _ | apply get_put | apply get_old | refine get_nf (by assumption) ?_ | apply get_kd | with_unfolding_all rfl)
   exact tM hG rfl
   exact rfl
   refine Es_loc (by with_reducible repeat' first | assumption | exact lk_same | apply lk_else | with_unfolding_all rfl) ?_
   apply Es_nil
   refine k_ca (he) ?_
   apply k_at2
   ·(with_reducible repeat' first | assumption | exact get_new _ _ | apply get_put | apply get_old | refine get_nf (by assumption) ?_ | apply get_kd | with_unfolding_all rfl)
   exact tA hG rfl
   exact rfl
   refine E_loc (by with_reducible repeat' first | assumption | exact lk_same | apply lk_else | with_unfolding_all rfl) ?_
   refine k_cm false (C_eq (congrArg some (decide_eq_false z))) ?_
   apply X_nilP
   apply X_nilP
   rcases ih with ⟨l', T', h, rfl, h'⟩ | ⟨v, T', h, rfl, t', m', h'⟩
   ·exact .inl ⟨l', _, h, rfl, fun u mu => by cases mu with
     | head => exact z
     | tail _ mu => exact h' u mu⟩
   ·exact .inr ⟨v, _, h, rfl, t', .tail _ m', h'⟩
theorem place_ok (L : L8 T s lr sp st sd ep ss es m rev) (mx : x ∈ ss) (Q : Q8 q C rev) (W : WS es q C) (hln : T.get ln = some (liOb s)) : CaP c T 778 [.ref ln, .int x.num] (d + 9) fun v T' => ((v = .none ∧ ∀ t ∈ q, ((t.sp : Int) + 1) ≠ x.num) ∨ ∃ t ∈ q, v = .str (plc t.c) ∧ ((t.sp : Int) + 1) = x.num) ∧ L8 T' s lr sp st sd ep ss es m rev ∧ Upd T.n (K8 s lr sd) T T' := by
 obtain ⟨_, T1, h1, r, rfl, g1, L1, u1⟩ := placesW ok hG (d := d) L mx Q W hln
 obtain ⟨sf1, rows1, X1, _⟩ := L1.X
 have lp := place_loop ok hG (d := d + 7) (num := x.num) Q (W.mem) (L8.kl L hln u1) X1.hs X1.tr g1 q [] [(1735222900, .ref ln), (126883592042095, .int x.num)] rfl rfl rfl
 rcases lp with ⟨l', T', h, rfl, h'⟩ | ⟨v, T', h, rfl, t', m', e', h'⟩
 ·skip
  refine C_funQ ok (l := [(1735222900, _), (126883592042095, _)]) (tF hG rfl) rfl fun Qz hQ => ?_
  apply X_consP
  apply S_for
  apply E_lm ok
  exact rfl
  ·(with_reducible repeat' first | assumption | exact get_new _ _ | apply get_put | apply get_old | refine get_nf (by assumption) ?_ | apply get_kd | with_unfolding_all rfl)
  exact tM hG rfl
  exact rfl
  refine Es_loc rfl ?_
  apply Es_nil
  refine k_ca (h1) ?_
  refine k_ik (ikL g1) ?_
  refine k_lo (h) ?_
  apply X_consP
  apply S_ret
  apply E_none
  apply hQ
  exact ⟨.inl ⟨rfl, h'⟩, L1, u1⟩
 ·subst e'
  refine C_funQ ok (l := [(1735222900, _), (126883592042095, _)]) (tF hG rfl) rfl fun Qz hQ => ?_
  apply X_consP
  apply S_for
  apply E_lm ok
  exact rfl
  ·(with_reducible repeat' first | assumption | exact get_new _ _ | apply get_put | apply get_old | refine get_nf (by assumption) ?_ | apply get_kd | with_unfolding_all rfl)
  exact tM hG rfl
  exact rfl
  refine Es_loc rfl ?_
  apply Es_nil
  refine k_ca (h1) ?_
  refine k_ik (ikL g1) ?_
  refine k_lor (h) ?_
  apply hQ
  exact ⟨.inr ⟨t', m', rfl, h'⟩, L1, u1⟩
theorem first_ok (L : L8 T s lr sp st sd ep ss es m rev) (mx : x ∈ ss) (Q : Q8 q C rev) (W : WS es q C) (hln : T.get ln = some (liOb s)) : CaP c T 800 [.ref ln, .int x.num] (d + 9) fun v T' => ((v = .none ∧ q = []) ∨ ∃ t l, q = t :: l ∧ v = .int ((t.sp : Int) + 1)) ∧ L8 T' s lr sp st sd ep ss es m rev ∧ Upd T.n (K8 s lr sd) T T' := by
 obtain ⟨_, T1, h1, r, rfl, g1, L1, u1⟩ := placesW ok hG (d := d) L mx Q W hln
 obtain ⟨sf1, rows1, X1, _⟩ := L1.X
 have hs1 := X1.hs
 have hln1 := L8.kl L hln u1
 have lq : (q.map Pl.pv).length < 4000 := by rw [List.length_map]; exact lt4 (Nat.le_trans Q.len Q.c10) rfl
 obtain ⟨dr, ep9, xs, t3, hx3⟩ := id X1.tr
 have ht := t3.ht
 cases q with
 | nil =>
  refine C_funQ ok (l := [(1735222900, _), (126883592042095, _)]) (tF hG rfl) rfl fun Qz hQ => ?_
  apply X_consP
  apply S_asg
  apply E_lm ok
  exact rfl
  ·(with_reducible repeat' first | assumption | exact get_new _ _ | apply get_put | apply get_old | refine get_nf (by assumption) ?_ | apply get_kd | with_unfolding_all rfl)
  exact tM hG rfl
  exact rfl
  refine Es_loc rfl ?_
  apply Es_nil
  refine k_ca (h1) ?_
  apply X_consP
  apply S_if
  apply T_cmpP
  refine E_callB ok (tG hG rfl) (by first | exact .inl ⟨_, rfl⟩ | exact .inr ⟨_, rfl⟩) ?_
  refine Es_loc rfl ?_
  apply Es_nil
  refine k_bc (B_lenL g1 lq) ?_
  apply E_int
  refine k_cm true (C_eq rfl) ?_
  apply X_consP
  apply S_ret
  apply E_none
  apply hQ
  exact ⟨.inl ⟨rfl, rfl⟩, L1, u1⟩
 | cons t l =>
  obtain ⟨r9, he, ge⟩ := entry_yes ok hG (d := d + 7) X1.tr (W.mem t (.head _))
  refine C_funQ ok (l := [(1735222900, _), (126883592042095, _)]) (tF hG rfl) rfl fun Qz hQ => ?_
  apply X_consP
  apply S_asg
  apply E_lm ok
  exact rfl
  ·(with_reducible repeat' first | assumption | exact get_new _ _ | apply get_put | apply get_old | refine get_nf (by assumption) ?_ | apply get_kd | with_unfolding_all rfl)
  exact tM hG rfl
  exact rfl
  refine Es_loc rfl ?_
  apply Es_nil
  refine k_ca (h1) ?_
  apply X_consP
  apply S_if
  apply T_cmpP
  refine E_callB ok (tG hG rfl) (by first | exact .inl ⟨_, rfl⟩ | exact .inr ⟨_, rfl⟩) ?_
  refine Es_loc rfl ?_
  apply Es_nil
  refine k_bc (B_lenL g1 lq) ?_
  apply E_int
  refine k_cm false (C_eq (congrArg some (decide_eq_false (fun e => by have := Int.ofNat_inj.mp (show (((t :: l).map Pl.pv).length : Int) = ((0 : Nat) : Int) from e); cases this)))) ?_
  apply X_nilP
  apply X_consP
  apply S_ret
  apply E_attr ok
  apply E_meth ok
  apply E_attr ok
  apply E_la ok
  exact rfl
  ·(with_reducible repeat' first | assumption | exact get_new _ _ | apply get_put | apply get_old | refine get_nf (by assumption) ?_ | apply get_kd | with_unfolding_all rfl)
  exact tA hG rfl
  exact rfl
  apply k_at2
  ·(with_reducible repeat' first | assumption | exact get_new _ _ | apply get_put | apply get_old | refine get_nf (by assumption) ?_ | apply get_kd | with_unfolding_all rfl)
  exact tA hG rfl
  exact rfl
  apply k_mt2
  ·(with_reducible repeat' first | assumption | exact get_new _ _ | apply get_put | apply get_old | refine get_nf (by assumption) ?_ | apply get_kd | with_unfolding_all rfl)
  exact tM hG rfl
  exact rfl
  apply Es_cons
  apply E_sub
  refine E_loc rfl ?_
  apply E_int
  refine k_it (I_list (j := 0) g1 rfl (lb rfl)) ?_
  apply Es_nil
  refine k_ca (he) ?_
  apply k_at2
  ·(with_reducible repeat' first | assumption | exact get_new _ _ | apply get_put | apply get_old | refine get_nf (by assumption) ?_ | apply get_kd | with_unfolding_all rfl)
  exact tA hG rfl
  exact rfl
  apply hQ
  exact ⟨.inr ⟨t, l, rfl, rfl⟩, L1, u1⟩
end
noncomputable abbrev lkOb (s ln : Nat) : AO := .inst 873 [(440023414132, .ref s), (1718577773, .ref ln)]
theorem L8.kk {T T' : Hp} {s lr sp st sd ep m n ln : Nat} {ss : List Sn} {es : Es} {rev : Int} (L : L8 T s lr sp st sd ep ss es m rev) (h : T.get n = some (lkOb s ln)) (u : Upd T.n (K8 s lr sd) T T') : T'.get n = some (lkOb s ln) := by
 obtain ⟨sf, rows, X, _⟩ := L.X
 exact u.get ⟨ne_kd X.hs h rfl, ne_kd X.hr h rfl, ne_kd L.se.hd h rfl, rfl⟩ h
section
variable {c : Cx} (ok : Ok c) (hG : c.G = G) {d s lr sp st sd ep m ln k : Nat} {T : Hp} {ss : List Sn} {es : Es} {rev : Int} {x : Sn} {q : List Pl} {C : Nat} {sf : SF}
include ok hG
theorem fence_ok (L : L8 T s lr sp st sd ep ss es m rev) (mx : x ∈ ss) (Q : Q8 q C rev) (W : WS es q C) (hk : T.get k = some (lkOb s ln)) (hln : T.get ln = some (liOb s)) : CaP c T 870 [.ref k, .int x.num] (d + 9) fun v T' => ((v = .none ∧ q = []) ∨ ∃ t l, q = t :: l ∧ v = .int t.ma) ∧ L8 T' s lr sp st sd ep ss es m rev ∧ Upd T.n (K8 s lr sd) T T' := by
 obtain ⟨_, T1, h1, r, rfl, g1, L1, u1⟩ := placesW ok hG (d := d) L mx Q W hln
 obtain ⟨sf1, rows1, X1, _⟩ := L1.X
 have hs1 := X1.hs
 have hk1 := L.kk hk u1
 have lq : (q.map Pl.pv).length < 4000 := by rw [List.length_map]; exact lt4 (Nat.le_trans Q.len Q.c10) rfl
 obtain ⟨dr, ep9, xs, t3, hx3⟩ := id X1.tr
 have ht := t3.ht
 cases q with
 | nil =>
  refine C_funQ ok (l := [(1735222900, _), (126883592042095, _)]) (tF hG rfl) rfl fun Qz hQ => ?_
  apply X_consP
  apply S_asg
  apply E_meth ok
  apply E_la ok
  exact rfl
  ·(with_reducible repeat' first | assumption | exact get_new _ _ | apply get_put | apply get_old | refine get_nf (by assumption) ?_ | apply get_kd | with_unfolding_all rfl)
  exact tA hG rfl
  exact rfl
  apply k_mt2
  ·(with_reducible repeat' first | assumption | exact get_new _ _ | apply get_put | apply get_old | refine get_nf (by assumption) ?_ | apply get_kd | with_unfolding_all rfl)
  exact tM hG rfl
  exact rfl
  refine Es_loc rfl ?_
  apply Es_nil
  refine k_ca (h1) ?_
  apply X_consP
  apply S_if
  apply T_cmpP
  refine E_callB ok (tG hG rfl) (by first | exact .inl ⟨_, rfl⟩ | exact .inr ⟨_, rfl⟩) ?_
  refine Es_loc rfl ?_
  apply Es_nil
  refine k_bc (B_lenL g1 lq) ?_
  apply E_int
  refine k_cm true (C_eq rfl) ?_
  apply X_consP
  apply S_ret
  apply E_none
  apply hQ
  exact ⟨.inl ⟨rfl, rfl⟩, L1, u1⟩
 | cons t l =>
  obtain ⟨r9, he, ge⟩ := entry_yes ok hG (d := d + 7) X1.tr (W.mem t (.head _))
  refine C_funQ ok (l := [(1735222900, _), (126883592042095, _)]) (tF hG rfl) rfl fun Qz hQ => ?_
  apply X_consP
  apply S_asg
  apply E_meth ok
  apply E_la ok
  exact rfl
  ·(with_reducible repeat' first | assumption | exact get_new _ _ | apply get_put | apply get_old | refine get_nf (by assumption) ?_ | apply get_kd | with_unfolding_all rfl)
  exact tA hG rfl
  exact rfl
  apply k_mt2
  ·(with_reducible repeat' first | assumption | exact get_new _ _ | apply get_put | apply get_old | refine get_nf (by assumption) ?_ | apply get_kd | with_unfolding_all rfl)
  exact tM hG rfl
  exact rfl
  refine Es_loc rfl ?_
  apply Es_nil
  refine k_ca (h1) ?_
  apply X_consP
  apply S_if
  apply T_cmpP
  refine E_callB ok (tG hG rfl) (by first | exact .inl ⟨_, rfl⟩ | exact .inr ⟨_, rfl⟩) ?_
  refine Es_loc rfl ?_
  apply Es_nil
  refine k_bc (B_lenL g1 lq) ?_
  apply E_int
  refine k_cm false (C_eq (congrArg some (decide_eq_false (fun e => by have := Int.ofNat_inj.mp (show (((t :: l).map Pl.pv).length : Int) = ((0 : Nat) : Int) from e); cases this)))) ?_
  apply X_nilP
  apply X_consP
  apply S_ret
  apply E_attr ok
  apply E_meth ok
  apply E_attr ok
  apply E_la ok
  exact rfl
  ·(with_reducible repeat' first | assumption | exact get_new _ _ | apply get_put | apply get_old | refine get_nf (by assumption) ?_ | apply get_kd | with_unfolding_all rfl)
  exact tA hG rfl
  exact rfl
  apply k_at2
  ·(with_reducible repeat' first | assumption | exact get_new _ _ | apply get_put | apply get_old | refine get_nf (by assumption) ?_ | apply get_kd | with_unfolding_all rfl)
  exact tA hG rfl
  exact rfl
  apply k_mt2
  ·(with_reducible repeat' first | assumption | exact get_new _ _ | apply get_put | apply get_old | refine get_nf (by assumption) ?_ | apply get_kd | with_unfolding_all rfl)
  exact tM hG rfl
  exact rfl
  apply Es_cons
  apply E_sub
  refine E_loc rfl ?_
  apply E_int
  refine k_it (I_list (j := 0) g1 rfl (lb rfl)) ?_
  apply Es_nil
  refine k_ca (he) ?_
  apply k_at2
  ·(with_reducible repeat' first | assumption | exact get_new _ _ | apply get_put | apply get_old | refine get_nf (by assumption) ?_ | apply get_kd | with_unfolding_all rfl)
  exact tA hG rfl
  exact rfl
  apply hQ
  exact ⟨.inr ⟨t, l, rfl, rfl⟩, L1, u1⟩
noncomputable def hold (q : List Pl) (n : Int) : Bool := match q with | [] => false | t :: _ => decide (((t.sp : Int) + 1) = n)
theorem holds_ok (L : L8 T s lr sp st sd ep ss es m rev) (mx : x ∈ ss) (Q : Q8 q C rev) (W : WS es q C) (hk : T.get k = some (lkOb s ln)) (hln : T.get ln = some (liOb s)) : CaP c T 842 [.ref k, .int x.num] (d + 10) fun v T' => v = .bool (hold q x.num) ∧ L8 T' s lr sp st sd ep ss es m rev ∧ Upd T.n (K8 s lr sd) T T' := by
 obtain ⟨_, T1, h1, hv, L1, u1⟩ := first_ok ok hG (d := d) L mx Q W hln
 rcases hv with ⟨rfl, rfl⟩ | ⟨t, l, rfl, rfl⟩
 ·skip
  refine C_funQ ok (l := [(1735222900, _), (126883592042095, _)]) (tF hG rfl) rfl fun Qz hQ => ?_
  apply X_consP
  apply S_ret
  apply E_cmp
  apply E_meth ok
  apply E_la ok
  exact rfl
  ·(with_reducible repeat' first | assumption | exact get_new _ _ | apply get_put | apply get_old | refine get_nf (by assumption) ?_ | apply get_kd | with_unfolding_all rfl)
  exact tA hG rfl
  exact rfl
  apply k_mt2
  ·(with_reducible repeat' first | assumption | exact get_new _ _ | apply get_put | apply get_old | refine get_nf (by assumption) ?_ | apply get_kd | with_unfolding_all rfl)
  exact tM hG rfl
  exact rfl
  refine Es_loc rfl ?_
  apply Es_nil
  refine k_ca (h1) ?_
  refine E_loc rfl ?_
  refine k_cm _ (C_eq rfl) ?_
  apply hQ
  exact ⟨rfl, L1, u1⟩
 ·skip
  refine C_funQ ok (l := [(1735222900, _), (126883592042095, _)]) (tF hG rfl) rfl fun Qz hQ => ?_
  apply X_consP
  apply S_ret
  apply E_cmp
  apply E_meth ok
  apply E_la ok
  exact rfl
  ·(with_reducible repeat' first | assumption | exact get_new _ _ | apply get_put | apply get_old | refine get_nf (by assumption) ?_ | apply get_kd | with_unfolding_all rfl)
  exact tA hG rfl
  exact rfl
  apply k_mt2
  ·(with_reducible repeat' first | assumption | exact get_new _ _ | apply get_put | apply get_old | refine get_nf (by assumption) ?_ | apply get_kd | with_unfolding_all rfl)
  exact tM hG rfl
  exact rfl
  refine Es_loc rfl ?_
  apply Es_nil
  refine k_ca (h1) ?_
  refine E_loc rfl ?_
  refine k_cm _ (C_eq rfl) ?_
  apply hQ
  exact ⟨rfl, L1, u1⟩
theorem release_ok (L : L8 T s lr sp st sd ep ss es m rev) (hm : m < 40) (mx : x ∈ ss) (Q : Q8 q C rev) (W : WS es q C) (hk : T.get k = some (lkOb s ln)) (hln : T.get ln = some (liOb s)) : CaP c T 856 [.ref k, .int x.num] (d + 14) fun v T' => (v = .bool false ∧ (∀ t ∈ q, ((t.sp : Int) + 1) ≠ x.num) ∧ L8 T' s lr sp st sd ep ss es m rev ∧ Upd T.n (K8 s lr sd) T T') ∨ ∃ t ∈ q, v = .bool true ∧ ((t.sp : Int) + 1) = x.num ∧ ∃ es', L8 T' s lr sp st sd ep ss es' (m + 1) (rev + 1) ∧ WS es' (rmQ t.c q) C ∧ Q8 (rmQ t.c q) C (rev + 1) ∧ Upd T.n (K8 s lr sd) T T' := by
 obtain ⟨_, T1, h1, hv, L1, u1⟩ := place_ok ok hG (d := d + 3) L mx Q W hln
 have hln1 := L.kl hln u1
 have hk1 := L.kk hk u1
 rcases hv with ⟨rfl, hno⟩ | ⟨t, mt, rfl, hn⟩
 ·have : CaP c T 793 [.ref ln, .int x.num] (d + 13) fun v T' => v = .bool false ∧ T' = T1 := by
   refine C_funQ ok (l := [(1735222900, _), (126883592042095, _)]) (tF hG rfl) rfl fun Qz hQ => ?_
   apply X_consP
   apply S_asg
   apply E_lm ok
   exact rfl
   ·(with_reducible repeat' first | assumption | exact get_new _ _ | apply get_put | apply get_old | refine get_nf (by assumption) ?_ | apply get_kd | with_unfolding_all rfl)
   exact tM hG rfl
   exact rfl
   refine Es_loc rfl ?_
   apply Es_nil
   refine k_ca (h1) ?_
   apply X_consP
   apply S_if
   apply T_cmpP
   refine E_loc rfl ?_
   apply E_none
   refine k_cm true (by first | exact C_is0 | exact C_is1 rfl | exact C_isT) ?_
   apply X_consP
   apply S_ret
   apply E_bool
   apply hQ
   exact ⟨rfl, rfl⟩
  obtain ⟨_, _, h2, rfl, rfl⟩ := this
  refine C_funQ ok (l := [(1735222900, _), (126883592042095, _)]) (tF hG rfl) rfl fun Qz hQ => ?_
  apply X_consP
  apply S_ret
  apply E_meth ok
  apply E_la ok
  exact rfl
  ·(with_reducible repeat' first | assumption | exact get_new _ _ | apply get_put | apply get_old | refine get_nf (by assumption) ?_ | apply get_kd | with_unfolding_all rfl)
  exact tA hG rfl
  exact rfl
  apply k_mt2
  ·(with_reducible repeat' first | assumption | exact get_new _ _ | apply get_put | apply get_old | refine get_nf (by assumption) ?_ | apply get_kd | with_unfolding_all rfl)
  exact tM hG rfl
  exact rfl
  refine Es_loc rfl ?_
  apply Es_nil
  refine k_ca (h2) ?_
  apply hQ
  exact .inl ⟨rfl, hno, L1, u1⟩
 ·have B : Bs es q C := W.elim (fun w => by rw [w.2.1] at mt; cases mt) id
  obtain ⟨_, T2, h2, rfl, L2, u2⟩ := delete8 ok hG (d := d) L1 hm mx (okP_of (plc_facts ⟨t.c, Q.c mt⟩).1) (B.rP Q mt) (B.mem mt) (show (0 : Int) ≠ -1 by decide) (B.okDel Q mt) (B.del Q mt).ne
  have : CaP c T 793 [.ref ln, .int x.num] (d + 13) fun v T' => v = .bool true ∧ T' = T2 := by
   obtain ⟨sf1, rows1, X1, _⟩ := L1.X
   have hs1 := X1.hs
   refine C_funQ ok (l := [(1735222900, _), (126883592042095, _)]) (tF hG rfl) rfl fun Qz hQ => ?_
   apply X_consP
   apply S_asg
   apply E_lm ok
   exact rfl
   ·(with_reducible repeat' first | assumption | exact get_new _ _ | apply get_put | apply get_old | refine get_nf (by assumption) ?_ | apply get_kd | with_unfolding_all rfl)
   exact tM hG rfl
   exact rfl
   refine Es_loc rfl ?_
   apply Es_nil
   refine k_ca (h1) ?_
   apply X_consP
   apply S_if
   apply T_cmpP
   refine E_loc rfl ?_
   apply E_none
   refine k_cm false (by first | exact C_is0 | exact C_is1 rfl | exact C_isT) ?_
   apply X_nilP
   apply X_consP
   apply S_expr
   apply E_meth ok
   apply E_la ok
   exact rfl
   ·(with_reducible repeat' first | assumption | exact get_new _ _ | apply get_put | apply get_old | refine get_nf (by assumption) ?_ | apply get_kd | with_unfolding_all rfl)
   exact tA hG rfl
   exact rfl
   apply k_mt2
   ·(with_reducible repeat' first | assumption | exact get_new _ _ | apply get_put | apply get_old | refine get_nf (by assumption) ?_ | apply get_kd | with_unfolding_all rfl)
   exact tM hG rfl
   exact rfl
   refine Es_loc rfl ?_
   refine Es_loc rfl ?_
   apply Es_nil
   refine k_ca (h2) ?_
   apply X_consP
   apply S_ret
   apply E_bool
   apply hQ
   exact ⟨rfl, rfl⟩
  obtain ⟨_, _, h3, rfl, rfl⟩ := this
  refine C_funQ ok (l := [(1735222900, _), (126883592042095, _)]) (tF hG rfl) rfl fun Qz hQ => ?_
  apply X_consP
  apply S_ret
  apply E_meth ok
  apply E_la ok
  exact rfl
  ·(with_reducible repeat' first | assumption | exact get_new _ _ | apply get_put | apply get_old | refine get_nf (by assumption) ?_ | apply get_kd | with_unfolding_all rfl)
  exact tA hG rfl
  exact rfl
  apply k_mt2
  ·(with_reducible repeat' first | assumption | exact get_new _ _ | apply get_put | apply get_old | refine get_nf (by assumption) ?_ | apply get_kd | with_unfolding_all rfl)
  exact tM hG rfl
  exact rfl
  refine Es_loc rfl ?_
  apply Es_nil
  refine k_ca (h3) ?_
  apply hQ
  exact .inr ⟨t, mt, rfl, hn, _, L2, .inr (B.del Q mt), Q.del t.c (Int.le_add_one (Int.le_refl _)), u1.then u2 u1.1⟩
end
theorem Q8.mono {q : List Pl} {C : Nat} {r r' : Int} (Q : Q8 q C r) (h : r ≤ r') : Q8 q C r' := { Q with mr := fun t m => Int.le_trans (Q.mr t m) h }
theorem ws_new {r1 r2 n : Int} : Bs (appE r2 (appE r1 es00 (crC pL [] false false n)) (crC pO [] false false n)) [] 0 := by
 refine ⟨bump false root0, bump false ⟨.str [], 0, 0, .none, .none, .none, 0, r1, r1⟩, ⟨.str [], 0, 0, .none, .none, .none, 0, r2, r2⟩, ?_, rfl, rfl, rfl, ⟨rfl, rfl⟩, ⟨rfl, rfl⟩, ⟨rfl, rfl⟩, rfl⟩
 show upE (parL pO) _ (upE (parL pL) _ _ ++ _) ++ _ = _
 rw [show parL pO = pL from b_facts.2.2.2.2.2.1, show parL pL = [47] from b_facts.2.2.2.2.2.2.1]
 rfl
section
variable {c : Cx} (ok : Ok c) (hG : c.G = G) {d s lr sp st sd ep m ln k : Nat} {T : Hp} {ss : List Sn} {es : Es} {rev : Int} {x : Sn} {q : List Pl} {C : Nat} {sf : SF}
include ok hG
theorem made_ok (L : L8 T s lr sp st sd ep ss es m rev) (hm : m < 30) (mx : x ∈ ss) (Q : Q8 q C rev) (W : WS es q C) : CaP c T 752 [.ref s, .int x.num, .str pO] (d + 14) fun v T' => ∃ es' m' rev', L8 T' s lr sp st sd ep ss es' m' rev' ∧ m' ≤ m + 2 ∧ rev ≤ rev' ∧ Bs es' q C ∧ Q8 q C rev' ∧ Upd T.n (K8 s lr sd) T T' := by
 rcases W with ⟨rfl, rfl, rfl⟩ | B
 ·have nL : pL ∉ es00.map (·.1) := show pL ∉ [[47]] by decide +kernel
  have nO : pO ∉ es00.map (·.1) := show pO ∉ [[47]] by decide +kernel
  have r0 : Rch es00 [47] := .here (.head _) rfl
  have rL : Rch es00 pL := .up (okP_of b_facts.2.1) b_facts.2.2.2.2.2.2.2.2.1 (.inl nL) (by rw [b_facts.2.2.2.2.2.2.1]; exact r0)
  have rO : Rch es00 pO := .up (okP_of b_facts.1) b_facts.2.2.2.2.2.2.2.1 (.inl nO) (by rw [b_facts.2.2.2.2.2.1]; exact rL)
  have ea : ∀ r n : Int, appE r es00 (crC pL [] false false n) = [([47], bump false root0), (pL, ⟨.str [], 0, 0, .none, .none, .none, 0, r, r⟩)] := fun r n => by
   show upE (parL pL) _ _ ++ _ = _
   rw [show parL pL = [47] from b_facts.2.2.2.2.2.2.1]; rfl
  obtain ⟨_, T1, h1, rfl, L1, u1⟩ := made_no ok hG (d := d + 1) (p := pO) (m1 := m + 1) (rev1 := rev + 1) (es1 := appE (rev + 1) es00 (crC pL [] false false x.num)) (e0 := root0) (v0 := .str pL) L mx (okP_of b_facts.1) b_facts.2.2.2.2.2.2.2.1 rO nO (fun T1 L1 => by
    rw [b_facts.2.2.2.2.2.1]
    exact made_no ok hG (d := d) (p := pL) (m1 := m) (rev1 := rev) (es1 := es00) (e0 := root0) (v0 := .str [47]) L1 mx (okP_of b_facts.2.1) b_facts.2.2.2.2.2.2.2.2.1 rL nL (fun T2 L2 => by
     rw [b_facts.2.2.2.2.2.2.1]
     exact ⟨_, T2, made_root ok hG, rfl, L2, Upd.refl⟩) (Nat.lt_trans hm (lb rfl)) (by rw [b_facts.2.2.2.2.2.2.1]; exact r0) ⟨okP_of b_facts.2.1, b_facts.2.2.2.2.2.2.2.2.1, nL, lb rfl, root0, by rw [b_facts.2.2.2.2.2.2.1]; exact .head _, rfl, rfl⟩) (Nat.lt_trans (Nat.succ_lt_succ hm) (lb rfl))
   (by rw [b_facts.2.2.2.2.2.1, ea]; exact .up (okP_of b_facts.2.1) b_facts.2.2.2.2.2.2.2.2.1 (.inr ⟨_, .tail _ (.head _), rfl⟩) (by rw [b_facts.2.2.2.2.2.2.1]; exact .here (.head _) rfl))
   (by rw [ea]; exact ⟨okP_of b_facts.1, b_facts.2.2.2.2.2.2.2.1, show pO ∉ [[47], pL] by decide +kernel, lb rfl, _, by rw [b_facts.2.2.2.2.2.1]; exact .tail _ (.head _), rfl, rfl⟩)
  have r2 : rev ≤ rev + 1 + 1 := Int.le_add_one (Int.le_add_one (Int.le_refl _))
  exact ⟨_, T1, h1, _, _, _, L1, Nat.le_refl _, r2, ws_new, Q.mono r2, u1⟩
 ·obtain ⟨e, me, _⟩ := B.mO
  obtain ⟨_, T1, h1, rfl, L1, u1⟩ := made_yes ok hG (d := d + 6) L mx (okP_of b_facts.1) b_facts.2.2.2.2.2.2.2.1 B.rO me
  exact ⟨_, T1, h1, es, m, rev, L1, Nat.le_add_right _ 2, Int.le_refl _, B, Q, u1⟩
noncomputable def addQ (q q' : List Pl) (sp : Nat) (rev : Int) : Prop := ((∃ t ∈ q, t.sp = sp) ∧ q' = q) ∨ ((∀ t ∈ q, t.sp ≠ sp) ∧ ∃ c r, q' = q ++ [⟨c, sp, r⟩] ∧ rev < r)
theorem join8 {i : Nat} (L : L8 T s lr sp st sd ep ss es m rev) (hm : m < 30) (mx : x ∈ ss) (hx : x.num = (i : Int) + 1) (i3 : i < 3) (Q : Q8 q C rev) (hC : C < 10) (W : WS es q C) (hln : T.get ln = some (liOb s)) : CaP c T 786 [.ref ln, .int x.num] (d + 15) fun v T' => ∃ es' m' rev' q' C', L8 T' s lr sp st sd ep ss es' m' rev' ∧ m' ≤ m + 3 ∧ rev ≤ rev' ∧ Bs es' q' C' ∧ C' ≤ C + 1 ∧ Q8 q' C' rev' ∧ addQ q q' i rev ∧ Upd T.n (K8 s lr sd) T T' := by
 obtain ⟨vm, T1, h1, es1, m1, rev1, L1, hm1, hr1, B1, Q1, u1⟩ := made_ok ok hG (d := d) L hm mx Q W
 have hln1 := L.kl hln u1
 obtain ⟨v2, T2, h2, hv, L2, u2⟩ := place_ok ok hG (d := d + 5) L1 mx Q1 (.inr B1) hln1
 have u12 := u1.then u2 u1.1
 have hln2 := L.kl hln u12
 obtain ⟨sf2, rows2, X2, _⟩ := L2.X
 have hs2 := X2.hs
 rcases hv with ⟨rfl, hno⟩ | ⟨t, mt, rfl, hn⟩
 ·obtain ⟨_, T3, h3, rfl, u3⟩ := join_ok ok hG (d := d + 12) (T := T2) (p := pO) (q := [112, 108, 97, 99, 101, 45]) b_facts.2.2.2.2.2.2.2.1 (okP_of b_facts.2.2.1) (lb rfl) (lb rfl)
  have hs3 := u3.get trivial hs2
  have nsp : i ∉ q.map Pl.sp := fun m => by
   obtain ⟨t, mt, e⟩ := List.mem_map.mp m
   exact hno t mt (by rw [e, hx])
  obtain ⟨eO, mO, pO', cO⟩ := B1.mO
  obtain ⟨_, T4, h4, rfl, L4, u4⟩ := create8 ok hG (d := d + 2) (k := C) (p := plB) (q := plc C) (data := []) (van := true) (num := true) (args := [.ref s, .int x.num, .str plB, .str [], .bool true, .bool true]) rfl (L2.new u3) (Nat.lt_of_le_of_lt hm1 (Nat.lt_trans (Nat.add_lt_add_right hm 2) (lb rfl))) mx (okP_of b_facts.2.2.1) b_facts.2.2.2.2.1 (by rw [b_facts.2.2.2.1]; exact B1.rO) (.inr ⟨rfl, rfl, Nat.lt_trans hC (lb rfl), b_facts.2.2.2.2.2.2.2.2.2.2.2, okP_of (plc_facts ⟨C, hC⟩).1, eO, by rw [b_facts.2.2.2.1]; exact mO, cO⟩) rfl (by rw [hx]; exact B1.okAdd Q1 hC)
  rw [hx] at L4
  refine C_funQ ok (l := [(1735222900, _), (126883592042095, _), (1651860069, _)]) (tF hG rfl) rfl fun Qz hQ => ?_
  apply X_consP
  apply S_if
  apply T_cmpP
  refine E_callB ok (tG hG rfl) (by first | exact .inl ⟨_, rfl⟩ | exact .inr ⟨_, rfl⟩) ?_
  refine Es_loc rfl ?_
  apply Es_nil
  refine k_bc (by first | exact B_typeS | exact B_typeI | exact B_typeT (by (with_reducible repeat' first | assumption | exact get_new _ _ | apply get_put | apply get_old | refine get_nf (by assumption) ?_ | apply get_kd | with_unfolding_all rfl))) ?_
  refine E_glb ok (tG hG rfl) ?_
  refine k_cm false (by first | exact C_isnt0 | exact C_isnt1 rfl | exact C_isntT) ?_
  apply X_nilP
  apply X_consP
  apply S_expr
  refine E_callF ok (tG hG rfl) (tF hG rfl) ?_
  apply Es_cons
  apply E_la ok
  exact rfl
  ·(with_reducible repeat' first | assumption | exact get_new _ _ | apply get_put | apply get_old | refine get_nf (by assumption) ?_ | apply get_kd | with_unfolding_all rfl)
  exact tA hG rfl
  exact rfl
  refine Es_loc rfl ?_
  apply Es_cons
  apply E_la ok
  exact rfl
  ·(with_reducible repeat' first | assumption | exact get_new _ _ | apply get_put | apply get_old | refine get_nf (by assumption) ?_ | apply get_kd | with_unfolding_all rfl)
  exact tA hG rfl
  exact rfl
  apply Es_nil
  refine k_ca (h1) ?_
  apply X_consP
  apply S_asg
  apply E_lm ok
  exact rfl
  ·(with_reducible repeat' first | assumption | exact get_new _ _ | apply get_put | apply get_old | refine get_nf (by assumption) ?_ | apply get_kd | with_unfolding_all rfl)
  exact tM hG rfl
  exact rfl
  refine Es_loc rfl ?_
  apply Es_nil
  refine k_ca (h2) ?_
  apply X_consP
  apply S_if
  apply T_cmpP
  refine E_loc rfl ?_
  apply E_none
  refine k_cm false (by first | exact C_isnt0 | exact C_isnt1 rfl | exact C_isntT) ?_
  apply X_nilP
  apply X_consP
  apply S_ret
  apply E_meth ok
  apply E_la ok
  exact rfl
  ·(with_reducible repeat' first | assumption | exact get_new _ _ | apply get_put | apply get_old | refine get_nf (by assumption) ?_ | apply get_kd | with_unfolding_all rfl)
  exact tA hG rfl
  exact rfl
  apply k_mt2
  ·(with_reducible repeat' first | assumption | exact get_new _ _ | apply get_put | apply get_old | refine get_nf (by assumption) ?_ | apply get_kd | with_unfolding_all rfl)
  exact tM hG rfl
  exact rfl
  refine Es_loc rfl ?_
  apply Es_cons
  refine E_callF ok (tG hG rfl) (tF hG rfl) ?_
  apply Es_cons
  apply E_la ok
  exact rfl
  ·(with_reducible repeat' first | assumption | exact get_new _ _ | apply get_put | apply get_old | refine get_nf (by assumption) ?_ | apply get_kd | with_unfolding_all rfl)
  exact tA hG rfl
  exact rfl
  apply Es_cons
  apply E_str
  apply Es_nil
  refine k_ca (h3) ?_
  refine Es_loc rfl ?_
  apply Es_cons
  apply E_bool
  apply Es_cons
  apply E_bool
  apply Es_nil
  refine k_ca (h4) ?_
  apply hQ
  exact ⟨_, _, _, q ++ [⟨C, i, rev1 + 1⟩], C + 1, L4, Nat.succ_le_succ hm1, Int.le_trans hr1 (Int.le_add_one (Int.le_refl _)), B1.add Q1 hC, Nat.le_refl _, Q1.add hC i3 nsp, .inr ⟨fun t mt e => nsp (e ▸ List.mem_map_of_mem mt), _, _, rfl, Int.lt_add_one_of_le hr1⟩, (u12.then u3.a u12.1).then u4 (Nat.le_trans u12.1 u3.1)⟩
 ·skip
  refine C_funQ ok (l := [(1735222900, _), (126883592042095, _), (1651860069, _)]) (tF hG rfl) rfl fun Qz hQ => ?_
  apply X_consP
  apply S_if
  apply T_cmpP
  refine E_callB ok (tG hG rfl) (by first | exact .inl ⟨_, rfl⟩ | exact .inr ⟨_, rfl⟩) ?_
  refine Es_loc rfl ?_
  apply Es_nil
  refine k_bc (by first | exact B_typeS | exact B_typeI | exact B_typeT (by (with_reducible repeat' first | assumption | exact get_new _ _ | apply get_put | apply get_old | refine get_nf (by assumption) ?_ | apply get_kd | with_unfolding_all rfl))) ?_
  refine E_glb ok (tG hG rfl) ?_
  refine k_cm false (by first | exact C_isnt0 | exact C_isnt1 rfl | exact C_isntT) ?_
  apply X_nilP
  apply X_consP
  apply S_expr
  refine E_callF ok (tG hG rfl) (tF hG rfl) ?_
  apply Es_cons
  apply E_la ok
  exact rfl
  ·(with_reducible repeat' first | assumption | exact get_new _ _ | apply get_put | apply get_old | refine get_nf (by assumption) ?_ | apply get_kd | with_unfolding_all rfl)
  exact tA hG rfl
  exact rfl
  refine Es_loc rfl ?_
  apply Es_cons
  apply E_la ok
  exact rfl
  ·(with_reducible repeat' first | assumption | exact get_new _ _ | apply get_put | apply get_old | refine get_nf (by assumption) ?_ | apply get_kd | with_unfolding_all rfl)
  exact tA hG rfl
  exact rfl
  apply Es_nil
  refine k_ca (h1) ?_
  apply X_consP
  apply S_asg
  apply E_lm ok
  exact rfl
  ·(with_reducible repeat' first | assumption | exact get_new _ _ | apply get_put | apply get_old | refine get_nf (by assumption) ?_ | apply get_kd | with_unfolding_all rfl)
  exact tM hG rfl
  exact rfl
  refine Es_loc rfl ?_
  apply Es_nil
  refine k_ca (h2) ?_
  apply X_consP
  apply S_if
  apply T_cmpP
  refine E_loc rfl ?_
  apply E_none
  refine k_cm true (by first | exact C_isnt0 | exact C_isnt1 rfl | exact C_isntT) ?_
  apply X_consP
  apply S_ret
  refine E_loc rfl ?_
  apply hQ
  refine ⟨_, _, _, q, C, L2, Nat.le_succ_of_le hm1, hr1, B1, Nat.le_succ _, Q1, .inl ⟨⟨t, mt, ?_⟩, rfl⟩, u12⟩
  exact sp_inj (hn.trans hx)
theorem acquire_ok {i : Nat} (L : L8 T s lr sp st sd ep ss es m rev) (hm : m < 30) (mx : x ∈ ss) (hx : x.num = (i : Int) + 1) (i3 : i < 3) (Q : Q8 q C rev) (hC : C < 10) (W : WS es q C) (hk : T.get k = some (lkOb s ln)) (hln : T.get ln = some (liOb s)) : CaP c T 835 [.ref k, .int x.num] (d + 16) fun v T' => ∃ es' m' rev' q' C', v = .bool (hold q' x.num) ∧ L8 T' s lr sp st sd ep ss es' m' rev' ∧ m' ≤ m + 3 ∧ rev ≤ rev' ∧ Bs es' q' C' ∧ C' ≤ C + 1 ∧ Q8 q' C' rev' ∧ addQ q q' i rev ∧ Upd T.n (K8 s lr sd) T T' := by
 obtain ⟨vj, T1, h1, es1, m1, rev1, q1, C1, L1, a1, a2, a3, a4, a5, a6, u1⟩ := join8 ok hG (d := d) L hm mx hx i3 Q hC W hln
 have hk1 := L.kk hk u1
 obtain ⟨_, T2, h2, rfl, L2, u2⟩ := holds_ok ok hG (d := d + 5) L1 mx a5 (.inr a3) hk1 (L.kl hln u1)
 refine C_funQ ok (l := [(1735222900, _), (126883592042095, _)]) (tF hG rfl) rfl fun Qz hQ => ?_
 apply X_consP
 apply S_expr
 apply E_meth ok
 apply E_la ok
 exact rfl
 ·(with_reducible repeat' first | assumption | exact get_new _ _ | apply get_put | apply get_old | refine get_nf (by assumption) ?_ | apply get_kd | with_unfolding_all rfl)
 exact tA hG rfl
 exact rfl
 apply k_mt2
 ·(with_reducible repeat' first | assumption | exact get_new _ _ | apply get_put | apply get_old | refine get_nf (by assumption) ?_ | apply get_kd | with_unfolding_all rfl)
 exact tM hG rfl
 exact rfl
 refine Es_loc rfl ?_
 apply Es_nil
 refine k_ca (h1) ?_
 apply X_consP
 apply S_ret
 apply E_lm ok
 exact rfl
 ·(with_reducible repeat' first | assumption | exact get_new _ _ | apply get_put | apply get_old | refine get_nf (by assumption) ?_ | apply get_kd | with_unfolding_all rfl)
 exact tM hG rfl
 exact rfl
 refine Es_loc rfl ?_
 apply Es_nil
 refine k_ca (h2) ?_
 apply hQ
 exact ⟨_, _, _, _, _, rfl, L2, a1, a2, a3, a4, a5, a6, u1.then u2 u1.1⟩
end
section
variable {c : Cx} (ok : Ok c) (hG : c.G = G) {d s lr sp st lo t cl cr : Nat} {T T0 : Hp} {es es' : Es} {sf : SF} {rows : List Rn}
include ok hG
theorem publish_store {chs : List (Nat × Ch)} (X : StoreAt T s lr sp st sf rows es) (sz : rows.length < 49) (tr' : TreeAt T lo t (chE (sf.rev + 1) es chs)) (l1 : 1 ≤ lo) (hc : T.get cl = some (.list (chs.map cRf))) (hch : ∀ y ∈ chs, ChAt T y.1 y.2) (sc : chs.length < 60) (hk : okChs (sf.rev + 1) es chs) : CaP c T 580 [.ref s, .ref t, .ref cl] (d + 3) fun v T' => v = .none ∧ ∃ row : Rn, StoreAt T' s lr sp st { sf with tree := t, rev := sf.rev + 1 } (rows ++ [row]) (chE (sf.rev + 1) es chs) ∧ Upd T.n (fun r _ => r ≠ s ∧ r ≠ lr) T T' := by
 obtain ⟨_, T2, h2, rfl, gs2, row, e1, e2, g2, r2, u2⟩ := publish_ok ok hG (d := d) (rows := rows) (t := t) (cl := cl) (chs := chs) X.hs X.ps X.hl X.hr X.rn (Nat.lt_succ_of_lt sz) hc hch sc X.lst X.pl X.wat
 have kt : ∀ y vs, T.get y = some (.tuple vs) → y ≠ s ∧ y ≠ lr := fun y vs g => ⟨ne_kd X.hs g rfl, ne_kd X.hr g rfl⟩
 have tk : ∀ r a, T.get r = some a → (Nat.beq (kd a) (254 + 6) || Nat.beq (kd a) 0 || Nat.beq (kd a) (178 + 6)) = true → r ≠ s ∧ r ≠ lr := fun r a g q => ⟨kd_ne X.hs g q rfl, kd_ne X.hr g q rfl⟩
 have gl : ∀ {r : Nat} {a : AO}, T.get r = some a → Nat.beq (kd sf.ob) (kd a) = false → Nat.beq 1 (kd a) = false → T2.get r = some a := fun g q1 q2 => u2.get ⟨ne_kd X.hs g q1, ne_kd X.hr g q2⟩ g
 refine ⟨_, T2, h2, rfl, row, ⟨gs2, X.ps, gl X.hl rfl rfl, g2, X.pl, fun y m => ?_, gl X.hp rfl rfl, X.ts.keep u2 tk, (tr'.weak l1).keep u2 tk, gl X.wat rfl rfl, gl X.lea rfl rfl, ?_, ?_, ?_⟩, u2⟩
 ·rcases List.mem_append.mp m with m | m
  ·exact (X.rn y m).upd u2 kt
  ·cases List.mem_singleton.mp m; exact r2
 ·have := X.rep.snoc (x := row) (by rw [e1, e2]; exact hk) (by rw [e1]; exact Int.lt_add_one_of_le X.pos)
  rw [e2, e1] at this; exact this
 ·rw [lastR_snoc]; exact e1
 ·exact Int.le_add_one X.pos
theorem commit_ok {ch : Ch} (X : StoreAt T0 s lr sp st sf rows es) (sz : rows.length < 49) (u0 : Upd T0.n All T0 T) (tr : TreeAt T T0.n t es) (hc : T.get cl = some (.list [.ref cr])) (hch : ChAt T cr ch) (hk : okC es ch) (l1 : 1 ≤ T0.n) : CaP c T 573 [.ref s, .ref t, .ref cl] (d + 6) fun v T' => v = .none ∧ ∃ row : Rn, StoreAt T' s lr sp st { sf with tree := t, rev := sf.rev + 1 } (rows ++ [row]) (appE (sf.rev + 1) es ch) ∧ Upd T0.n (fun r _ => r ≠ s ∧ r ≠ lr) T0 T' := by
 obtain ⟨_, T1, h1, rfl, tr1, u1⟩ := apply_ok ok hG (d := d) (rev := sf.rev + 1) tr hch hk u0.1 l1
 have u01 : Upd T0.n All T0 T1 := u0.trans (KT.low u1 u0.1)
 have X1 := X.new u01
 have hc1 : T1.get cl = some (.list [.ref cr]) := u1.get (.inr ⟨rfl, rfl⟩) hc
 obtain ⟨_, T2, h2, rfl, row, X2, u2⟩ := publish_store ok hG (d := d + 2) (t := t) (cl := cl) (chs := [(cr, ch)]) X1 sz tr1 l1 hc1 (fun y m => by cases List.mem_singleton.mp m; exact hch.upd u1 fun _ _ _ => .inr ⟨rfl, rfl⟩) (lb rfl) ⟨hk, trivial⟩
 have hs := u0.get trivial X.hs
 have hs1 := X1.hs
 obtain ⟨dr, ep9, xs, t3, hx3⟩ := id tr
 have ht := t3.ht
 refine C_funQ ok (l := [(1735222900, _), (1717990261, _), (32763696029788516, _)]) (tF hG rfl) rfl fun Qz hQ => ?_
 apply X_consP
 apply S_asg
 apply E_bin
 apply E_la ok
 exact rfl
 ·(with_reducible repeat' first | assumption | exact get_new _ _ | apply get_put | apply get_old | refine get_nf (by assumption) ?_ | apply get_kd | with_unfolding_all rfl)
 exact tA hG rfl
 exact rfl
 apply E_int
 refine k_bi (B_addI) ?_
 apply X_consP
 apply S_for
 refine E_loc rfl ?_
 refine k_ik (ikL hc) ?_
 refine L_nextP (turnL (x := some (.ref cr)) hc rfl) (bind_one) ?_
 apply X_consP
 apply S_expr
 apply E_lm ok
 exact rfl
 ·(with_reducible repeat' first | assumption | exact get_new _ _ | apply get_put | apply get_old | refine get_nf (by assumption) ?_ | apply get_kd | with_unfolding_all rfl)
 exact tM hG rfl
 exact rfl
 refine Es_loc rfl ?_
 refine Es_loc rfl ?_
 apply Es_nil
 refine k_ca (h1) ?_
 apply X_nilP
 refine L_endP (turnL hc1 rfl) ?_
 apply X_consP
 apply S_expr
 apply E_lm ok
 exact rfl
 ·(with_reducible repeat' first | assumption | exact get_new _ _ | apply get_put | apply get_old | refine get_nf (by assumption) ?_ | apply get_kd | with_unfolding_all rfl)
 exact tM hG rfl
 exact rfl
 refine Es_loc rfl ?_
 refine Es_loc rfl ?_
 apply Es_nil
 refine k_ca (h2) ?_
 apply X_nilP
 apply hQ
 exact ⟨rfl, row, X2, u01.a.then u2 u01.1⟩
theorem vanish_no {pl : Nat} (hp : T.get pl = some (.list [])) : Ca c 525 [.ref s, .ref pl] (d + 1) T (.ref pl) T := by
 have : CaP c T 525 [.ref s, .ref pl] (d + 1) fun v T' => v = .ref pl ∧ T' = T := by
  refine C_funQ ok (l := [(1735222900, _), (499985506929, _)]) (tF hG rfl) rfl fun Qz hQ => ?_
  apply X_consP
  apply S_if
  apply T_cmpP
  refine E_callB ok (tG hG rfl) (by first | exact .inl ⟨_, rfl⟩ | exact .inr ⟨_, rfl⟩) ?_
  refine Es_loc rfl ?_
  apply Es_nil
  refine k_bc (by first | exact B_lenL (by (with_reducible repeat' first | assumption | exact get_new _ _ | apply get_put | apply get_old | refine get_nf (by assumption) ?_ | apply get_kd | with_unfolding_all rfl)) (lb rfl) | exact B_lenT (by (with_reducible repeat' first | assumption | exact get_new _ _ | apply get_put | apply get_old | refine get_nf (by assumption) ?_ | apply get_kd | with_unfolding_all rfl)) (lb rfl) | exact B_lenS (lb rfl)) ?_
  apply E_int
  refine k_cm false (C_gt) ?_
  apply X_nilP
  apply X_consP
  apply S_ret
  refine E_loc rfl ?_
  apply hQ
  exact ⟨rfl, rfl⟩
 obtain ⟨_, _, h, rfl, rfl⟩ := this
 exact h
theorem vanish_one {pl : Nat} {p : List Nat} (X : StoreAt T s lr sp st sf rows es) (sz : rows.length < 49) (hp : T.get pl = some (.list [.str p])) (hk : okC es (.delete p)) (l1 : 1 ≤ T.n) : CaP c T 525 [.ref s, .ref pl] (d + 7) fun v T' => v = .ref pl ∧ ∃ (row : Rn) (t : Nat), StoreAt T' s lr sp st { sf with tree := t, rev := sf.rev + 1 } (rows ++ [row]) (appE (sf.rev + 1) es (.delete p)) ∧ Upd T.n (fun r _ => r ≠ s ∧ r ≠ lr) T T' := by
 obtain ⟨_, T1, h1, rfl, tr1, u1⟩ := tree_copy ok hG (d := d + 1) X.tr l1
 have hp1 := u1.get trivial hp
 have hs := X.hs
 obtain ⟨dr, ep9, xs, t3, hx3⟩ := id X.tr
 have ht := t3.ht
 have hco : CoP c (d + 6) (rm [k_dot0, 1769300593] [(1735222900, .ref s), (499985506929, .ref pl)]) (hnew T1 (.list [])) (.list (.tuple (.cons (.str [100, 101, 108, 101, 116, 101]) (.cons (.loc 1769300593) .nil)))) T1.n [1769300593] pl .list 0 .nil fun T' => T' = hput (hnew (hnew T1 (.list [])) (.tuple [.str [100, 101, 108, 101, 116, 101], .str p])) T1.n (.list [.ref (hnew T1 (.list [])).n]) := by
  refine Co_listP (turnL (x := some (.str p)) (get_old hp1) rfl) bind_one ?_
  apply Te_nilP
  apply k_ye
  apply E_tuple
  apply Es_cons
  apply E_str
  refine Es_loc rfl ?_
  apply Es_nil
  refine k_sh (lb rfl) ?_
  apply k_ap
  ·(with_reducible repeat' first | assumption | exact get_new _ _ | apply get_put | apply get_old | refine get_nf (by assumption) ?_ | apply get_kd | with_unfolding_all rfl)
  exact lb rfl
  exact Nat.le_trans l1 u1.1
  exact Co_endP (turnL (get_nf (Nat.ne_of_lt (lt_of_get hp1)) (get_old (get_old hp1))) rfl) rfl
 obtain ⟨_, h2, rfl⟩ := hco
 have u2 : Upd T.n All T (hput (hnew (hnew T1 (.list [])) (.tuple [.str [100, 101, 108, 101, 116, 101], .str p])) T1.n (.list [.ref (hnew T1 (.list [])).n])) := (u1.new.new).put u1.1
 obtain ⟨_, T3, h3, rfl, row, X3, u3⟩ := commit_ok ok hG (d := d) (T0 := T) (cl := T1.n) (cr := (hnew T1 (.list [])).n) (ch := .delete p) X sz u2 ((tr1.all (Upd.refl.new.new (o := .tuple [.str [100, 101, 108, 101, 116, 101], .str p]))).off (get_old (get_new _ _)) rfl rfl rfl) (get_put (get_old (get_new _ _))) (get_kd (get_old (get_new _ _)) (get_new _ _) rfl) hk l1
 refine C_funQ ok (l := [(1735222900, _), (499985506929, _)]) (tF hG rfl) rfl fun Qz hQ => ?_
 apply X_consP
 apply S_if
 apply T_cmpP
 refine E_callB ok (tG hG rfl) (by first | exact .inl ⟨_, rfl⟩ | exact .inr ⟨_, rfl⟩) ?_
 refine Es_loc rfl ?_
 apply Es_nil
 refine k_bc (by first | exact B_lenL (by (with_reducible repeat' first | assumption | exact get_new _ _ | apply get_put | apply get_old | refine get_nf (by assumption) ?_ | apply get_kd | with_unfolding_all rfl)) (lb rfl) | exact B_lenT (by (with_reducible repeat' first | assumption | exact get_new _ _ | apply get_put | apply get_old | refine get_nf (by assumption) ?_ | apply get_kd | with_unfolding_all rfl)) (lb rfl) | exact B_lenS (lb rfl)) ?_
 apply E_int
 refine k_cm true (C_gt) ?_
 apply X_consP
 apply S_expr
 apply E_lm ok
 exact rfl
 ·(with_reducible repeat' first | assumption | exact get_new _ _ | apply get_put | apply get_old | refine get_nf (by assumption) ?_ | apply get_kd | with_unfolding_all rfl)
 exact tM hG rfl
 exact rfl
 apply Es_cons
 apply E_meth ok
 apply E_la ok
 exact rfl
 ·(with_reducible repeat' first | assumption | exact get_new _ _ | apply get_put | apply get_old | refine get_nf (by assumption) ?_ | apply get_kd | with_unfolding_all rfl)
 exact tA hG rfl
 exact rfl
 apply k_mt2
 ·(with_reducible repeat' first | assumption | exact get_new _ _ | apply get_put | apply get_old | refine get_nf (by assumption) ?_ | apply get_kd | with_unfolding_all rfl)
 exact tM hG rfl
 exact rfl
 apply Es_nil
 refine k_ca (h1) ?_
 apply Es_cons
 apply E_listc
 refine E_loc rfl ?_
 refine k_ik (ikL hp1) ?_
 refine k_co (h2) ?_
 apply Es_nil
 refine k_ca (h3) ?_
 apply X_nilP
 apply X_consP
 apply S_ret
 refine E_loc rfl ?_
 apply hQ
 exact ⟨rfl, row, _, X3, u3⟩
end
noncomputable def ownB (e : En) (n : Int) : Bool := match e.own with | .int i => decide (i = n) | _ => false
noncomputable def ownE (e : En) : Prop := e.own = .none ∨ ∃ i, e.own = .int i
theorem own_cm {c : Cx} {T : Hp} {e : En} {n : Int} (h : ownE e) : Cm c .eq e.own (.int n) T (ownB e n) := by
 unfold ownB
 rcases h with h | ⟨i, h⟩
 ·rw [h]; exact C_eq rfl
 ·rw [h]; exact C_eq rfl
noncomputable def rmS (n : Int) (ss : List Sn) : List Sn := ss.filter fun y => !decide (y.num = n)
theorem ddl_ses {n : Int} {ss : List Sn} (nd : (ss.map Sn.num).Nodup) : ddl (.int n) (ss.map Sn.dc) = (rmS n ss).map Sn.dc := by
 induction ss with
 | nil => rfl
 | cons x ss ih =>
  have nd := List.nodup_cons.mp nd
  show (if decide (x.num = n) = true then _ else _) = _
  unfold rmS
  by_cases h : x.num = n
  ·rw [if_pos (decide_eq_true h), List.filter_cons_of_neg (by rw [decide_eq_true h]; exact Bool.false_ne_true)]
   rw [List.filter_eq_self.mpr fun y m => ?_]
   have k : ¬ y.num = n := fun e => nd.1 (by rw [h, ← e]; exact List.mem_map_of_mem m)
   rw [decide_eq_false k]; rfl
  ·rw [if_neg fun e => h (of_decide_eq_true e), List.filter_cons_of_pos (by rw [decide_eq_false h]; rfl), ih nd.2]; rfl
theorem StoreAt.cut {T T' : Hp} {s lr sp st sd ep : Nat} {sf : SF} {rows : List Rn} {es : Es} {ss : List Sn} (X : StoreAt T s lr sp st sf rows es) (ne : es ≠ []) (hd : T.get sd = some (.dict (ss.map Sn.dc) ep)) (ns : ss ≠ []) (u : Upd T.n (But sd) T T') : StoreAt T' s lr sp st sf rows es := by
 have nd : ∀ {x : Nat}, T.get x = some (.dict [] 0) → x ≠ sd := fun h e => by
  rw [e, hd] at h; injection h with q; injection q with q
  exact ns (List.map_eq_nil_iff.mp q)
 have kt : ∀ y vs, T.get y = some (.tuple vs) → But sd y (.tuple vs) := fun y vs g => ne_kd hd g rfl
 have u' : Upd T.n (fun r _ => r ≠ s ∧ r ≠ sd) T T' := u.weak (Nat.le_refl _) fun _ _ p => p.2
 exact ⟨u.get (ne_kd hd X.hs rfl) X.hs, X.ps, u.get (ne_kd hd X.hl rfl) X.hl, u.get (ne_kd hd X.hr rfl) X.hr, X.pl, fun y m => (X.rn y m).upd u kt, u.get (ne_kd hd X.hp rfl) X.hp, X.ts.keep2 (List.cons_ne_nil _ _) X.hs hd u', X.tr.keep2 ne X.hs hd u', u.get (nd X.wat) X.wat, u.get (nd X.lea) X.lea, X.rep, X.lst, X.pos⟩
theorem StoreAt.setw {T : Hp} {s lr sp st w : Nat} {sf : SF} {rows : List Rn} {es : Es} (X : StoreAt T s lr sp st sf rows es) (hw : T.get w = some (.dict [] 0)) : StoreAt (hput T s (SF.ob { sf with wat := w })) s lr sp st { sf with wat := w } rows es := by
 have hs := X.hs
 have u : Upd T.n (But s) T (hput T s (SF.ob { sf with wat := w })) := Upd.refl.set (fun _ k => k rfl) hs
 exact ⟨get_put hs, X.ps, get_kd hs X.hl rfl, get_kd hs X.hr rfl, X.pl, fun y m => (X.rn y m).upd u fun _ _ g => ne_kd hs g rfl, get_kd hs X.hp rfl, X.ts.off hs rfl rfl rfl, X.tr.off hs rfl rfl rfl, get_kd hs hw rfl, get_kd hs X.lea rfl, X.rep, X.lst, X.pos⟩
noncomputable abbrev enI : PEs := .cons (.cmp .eq (.attr (.sub (.attr (.attr (.loc 1735222900) 1717990261) 32763704688078694) (.loc 1769300593)) 495639820400) (.loc 126883592042095)) .nil
section
variable {c : Cx} (ok : Ok c) (hG : c.G = G) {d s lr sp st sd ep m : Nat} {T T0 : Hp} {es : Es} {sf : SF} {rows : List Rn} {ss : List Sn} {rev : Int} {x : Sn}
include ok hG
theorem own_loop {src A lo dr ep2 : Nat} {xs : List Nd} {ps : List (List Nat × En)} {n : Int} (hA : T0.n ≤ A) (h1 : 1 ≤ A) (hs : T0.get s = some sf.ob) (t3 : Tree3 T0 lo sf.tree dr ep2 xs) (sz : ps.length < 60) (hps : ∀ q ∈ ps, (∃ x ∈ xs, x.pe = q) ∧ ownE q.2) (hsrc : T0.get src = some (.list (ps.map fun q => .str q.1))) (l : List (List Nat × En)) : ∀ (pr : List (List Nat × En)) (T : Hp) (loc : Loc), ps = pr ++ l → Upd T0.n All T0 T → T.get A = some (.list ((pr.filter fun q => ownB q.2 n).map fun q => .str q.1)) → lk loc 1735222900 = some (.ref s) → lk loc 126883592042095 = some (.int n) →
  CoP c d loc T (.list (.loc 1769300593)) A [1769300593] src .list pr.length enI fun T' => T'.get A = some (.list ((ps.filter fun q => ownB q.2 n).map fun q => .str q.1)) ∧ Upd T0.n All T0 T' := by
 induction l with
 | nil =>
  intro pr T loc hx u ha k1 k2
  rw [List.append_nil] at hx; subst hx
  exact Co_endP (turnL (u.get trivial hsrc) (get_end _ _)) ⟨ha, u⟩
 | cons q l ih =>
  intro pr T loc hx u ha k1 k2
  have mq : q ∈ ps := hx ▸ List.mem_append_right _ (.head _)
  obtain ⟨⟨x, mx, ex⟩, ow⟩ := hps q mq
  cases ex
  have ta := t3.all u
  have ht := ta.ht
  have hd := ta.hd
  have ge := ta.he x mx
  have hs1 := u.get trivial hs
  have dx := dlk_yes mx t3.np
  have k3 : lk (pt loc 1769300593 (.str x.p)) 1769300593 = some (.str x.p) := lk_same
  have k4 : lk (pt loc 1769300593 (.str x.p)) 1735222900 = some (.ref s) := lk_else rfl k1
  have k5 : lk (pt loc 1769300593 (.str x.p)) 126883592042095 = some (.int n) := lk_else rfl k2
  have hx2 : ps = (pr ++ [x.pe]) ++ l := by rw [hx, List.append_assoc]; rfl
  have tn := turnL (j := pr.length) (x := some (.str x.p)) (u.get trivial hsrc) (by rw [hx]; exact get_mid (fun q : List Nat × En => AV.str q.1) _ _ _)
  have cmx := own_cm (c := c) (T := T) (n := n) ow
  have fl : ((pr ++ [x.pe]).filter fun q => ownB q.2 n) = (pr.filter fun q => ownB q.2 n) ++ (if ownB x.e n = true then [x.pe] else []) := by
   rw [List.filter_append]
   congr 1
   cases h : ownB x.e n
   ·rw [List.filter_cons_of_neg (by show ¬ ownB x.e n = true; rw [h]; exact Bool.false_ne_true)]; rfl
   ·rw [List.filter_cons_of_pos (p := fun q : List Nat × En => ownB q.2 n) h]; rfl
  have ih := fun T => ih (pr ++ [x.pe]) T (pt loc 1769300593 (.str x.p)) hx2
  rw [List.length_append] at ih
  cases h : ownB x.e n
  ·have h : ownB x.pe.2 n = false := h
   rw [show ownB x.e n = false from h, if_neg Bool.false_ne_true, List.append_nil] at fl
   rw [h] at cmx
   refine Co_skipP tn bind_one ?_
   apply Te_stopP
   apply T_cmpP
   apply E_attr ok
   apply E_sub
   apply E_attr ok
   apply E_la ok
   exact k4
   ·(with_reducible repeat' first | assumption | exact get_new _ _ | apply get_put | apply get_old | refine get_nf (by assumption) ?_ | apply get_kd | with_unfolding_all rfl)
   exact tA hG rfl
   exact rfl
   apply k_at2
   ·(with_reducible repeat' first | assumption | exact get_new _ _ | apply get_put | apply get_old | refine get_nf (by assumption) ?_ | apply get_kd | with_unfolding_all rfl)
   exact tA hG rfl
   exact rfl
   refine E_loc k3 ?_
   refine k_it (I_dict hd kOk_dc dx) ?_
   apply k_at2
   ·(with_reducible repeat' first | assumption | exact get_new _ _ | apply get_put | apply get_old | refine get_nf (by assumption) ?_ | apply get_kd | with_unfolding_all rfl)
   exact tA hG rfl
   exact rfl
   refine E_loc k5 ?_
   refine k_cm false (cmx) ?_
   apply k_ye
   apply k_ye
   exact ih T u (by rw [fl]; exact ha) k4 k5
  ·have h : ownB x.pe.2 n = true := h
   rw [show ownB x.e n = true from h, if_pos rfl] at fl
   rw [h] at cmx
   refine Co_listP tn bind_one ?_
   apply Te_goP
   apply T_cmpP
   apply E_attr ok
   apply E_sub
   apply E_attr ok
   apply E_la ok
   exact k4
   ·(with_reducible repeat' first | assumption | exact get_new _ _ | apply get_put | apply get_old | refine get_nf (by assumption) ?_ | apply get_kd | with_unfolding_all rfl)
   exact tA hG rfl
   exact rfl
   apply k_at2
   ·(with_reducible repeat' first | assumption | exact get_new _ _ | apply get_put | apply get_old | refine get_nf (by assumption) ?_ | apply get_kd | with_unfolding_all rfl)
   exact tA hG rfl
   exact rfl
   refine E_loc k3 ?_
   refine k_it (I_dict hd kOk_dc dx) ?_
   apply k_at2
   ·(with_reducible repeat' first | assumption | exact get_new _ _ | apply get_put | apply get_old | refine get_nf (by assumption) ?_ | apply get_kd | with_unfolding_all rfl)
   exact tA hG rfl
   exact rfl
   refine E_loc k5 ?_
   refine k_cm true (cmx) ?_
   apply k_ye
   apply Te_nilP
   apply k_ye
   refine E_loc k3 ?_
   apply k_ap
   exact ha
   rw [List.length_map]; exact lt4 (Nat.le_trans (List.length_filter_le _ _) (Nat.le_trans (by rw [hx, List.length_append]; exact Nat.le_add_right _ _) (Nat.le_of_lt sz))) rfl
   first | assumption | exact Nat.le_add_left 1 _ | exact lb rfl
   exact ih _ (u.put hA) (by rw [fl, List.map_append]; exact get_put ha) k4 k5
end
noncomputable def rmN (i : Nat) (q : List Pl) : List Pl := q.filter fun t => !decide (t.sp = i)
section
variable {es : Es} {q : List Pl} {C : Nat} {rev : Int}
theorem Q8.sameS (Q : Q8 q C rev) {t u : Pl} (mt : t ∈ q) (mu : u ∈ q) (e : t.sp = u.sp) : t = u := by
 have nd := Q.nd
 clear Q
 induction q with
 | nil => cases mt
 | cons y q ih =>
  have nd := List.nodup_cons.mp nd
  cases mt with
  | head => cases mu with
   | head => rfl
   | tail _ m => exact absurd (e ▸ List.mem_map_of_mem m) nd.1
  | tail _ m => cases mu with
   | head => exact absurd (e ▸ List.mem_map_of_mem m) nd.1
   | tail _ m2 => exact ih m m2 nd.2
theorem Q8.rm_eq (Q : Q8 q C rev) {t : Pl} (mt : t ∈ q) : rmQ t.c q = rmN t.sp q := by
 refine List.filter_congr fun u mu => ?_
 show (!decide (u.c = t.c)) = !decide (u.sp = t.sp)
 by_cases e : u.c = t.c
 ·rw [decide_eq_true e, decide_eq_true (by rw [Q.same mu mt e])]
 ·rw [decide_eq_false e, decide_eq_false fun z => e (by rw [Q.sameS mu mt z])]
theorem rm_no {i : Nat} (h : ∀ t ∈ q, t.sp ≠ i) : rmN i q = q := List.filter_eq_self.mpr fun t m => by rw [decide_eq_false (h t m)]; rfl
theorem filt_q {n : Int} (Q : Q8 q C rev) : (∃ t ∈ q, ((t.sp : Int) + 1) = n ∧ (q.map Pl.pe).filter (fun r => ownB r.2 n) = [t.pe]) ∨ ((∀ t ∈ q, ((t.sp : Int) + 1) ≠ n) ∧ (q.map Pl.pe).filter (fun r => ownB r.2 n) = []) := by
 have nd := Q.nd
 clear Q
 induction q with
 | nil => exact .inr ⟨fun t m => (by cases m), rfl⟩
 | cons y q ih =>
  have nd := List.nodup_cons.mp nd
  show _ ∨ _
  by_cases z : ((y.sp : Int) + 1) = n
  ·refine .inl ⟨y, .head _, z, ?_⟩
   show List.filter _ (y.pe :: q.map Pl.pe) = _
   rw [List.filter_cons_of_pos (p := fun r : List Nat × En => ownB r.2 n) (a := y.pe) (decide_eq_true z), List.filter_eq_nil_iff.mpr]
   intro r mr hr
   obtain ⟨u, mu, rfl⟩ := List.mem_map.mp mr
   have h2 : ((u.sp : Int) + 1) = n := of_decide_eq_true hr
   have : y.sp = u.sp := sp_inj (z.trans h2.symm)
   exact nd.1 (this ▸ List.mem_map_of_mem mu)
  ·have e : (List.map Pl.pe (y :: q)).filter (fun r => ownB r.2 n) = (q.map Pl.pe).filter (fun r => ownB r.2 n) := by
    show List.filter _ (y.pe :: q.map Pl.pe) = _
    rw [List.filter_cons_of_neg (p := fun r : List Nat × En => ownB r.2 n) (a := y.pe) fun h => z (of_decide_eq_true h)]
   rw [e]
   rcases ih nd.2 with ⟨t, mt, a, b⟩ | ⟨a, b⟩
   ·exact .inl ⟨t, .tail _ mt, a, b⟩
   ·exact .inr ⟨fun t mt => by cases mt with
     | head => exact z
     | tail _ mt => exact a t mt, b⟩
theorem own_no {p : List Nat} {e : En} {n : Int} {l : Es} (h : PlE e) : ((p, e) :: l).filter (fun r => ownB r.2 n) = l.filter fun r => ownB r.2 n := by
 refine List.filter_cons_of_neg (p := fun r : List Nat × En => ownB r.2 n) fun k => ?_
 have : ownB e n = true := k
 unfold ownB at this
 rw [h.1] at this; cases this
theorem WS.filt {n : Int} (W : WS es q C) (Q : Q8 q C rev) : (∃ t ∈ q, ((t.sp : Int) + 1) = n ∧ es.filter (fun r => ownB r.2 n) = [t.pe]) ∨ ((∀ t ∈ q, ((t.sp : Int) + 1) ≠ n) ∧ es.filter (fun r => ownB r.2 n) = []) := by
 rcases W with ⟨rfl, rfl, rfl⟩ | B
 ·exact .inr ⟨fun t m => (by cases m), rfl⟩
 ·obtain ⟨e0, e1, e2, rfl, _, _, _, h0, h1, h2, _⟩ := B.eq
  rw [own_no h0, own_no h1, own_no h2]
  exact filt_q Q
theorem WS.own (W : WS es q C) : ∀ r ∈ es, ownE r.2 := by
 rcases W with ⟨rfl, rfl, rfl⟩ | B
 ·intro r m; cases List.mem_singleton.mp m; exact .inl rfl
 ·obtain ⟨e0, e1, e2, rfl, _, _, _, h0, h1, h2, _⟩ := B.eq
  intro r m
  cases m with
  | head => exact .inl h0.1
  | tail _ m => cases m with
   | head => exact .inl h1.1
   | tail _ m => cases m with
    | head => exact .inl h2.1
    | tail _ m =>
     obtain ⟨u, mu, rfl⟩ := List.mem_map.mp m
     exact .inr ⟨_, rfl⟩
theorem slt_or (a b : List Nat) : slt b a = false ∨ slt a b = false := by
 unfold slt
 by_cases h : b < a
 ·exact .inr (decide_eq_false (List.lt_asymm h))
 ·exact .inl (decide_eq_false h)
theorem ins_sort {α : Type} (key : α → List Nat) (x : α) : ∀ m : List α, Srt slt (m.map key) → ∃ m' : List α, m'.Perm (x :: m) ∧ Srt slt (m'.map key)
 | [], _ => ⟨[x], .refl _, List.pairwise_cons.mpr ⟨fun _ h => (by cases h), .nil⟩⟩
 | y :: m, h => by
  have h := List.pairwise_cons.mp h
  rcases slt_or (key x) (key y) with q | q
  ·refine ⟨x :: y :: m, .refl _, List.pairwise_cons.mpr ⟨fun z mz => ?_, List.pairwise_cons.mpr h⟩⟩
   cases mz with
   | head => exact q
   | tail _ mz => exact totS.tr q (h.1 z mz)
  ·obtain ⟨m', p, s⟩ := ins_sort key x m h.2
   refine ⟨y :: m', (p.cons y).trans (.swap _ _ _), List.pairwise_cons.mpr ⟨fun z mz => ?_, s⟩⟩
   obtain ⟨w, mw, rfl⟩ := List.mem_map.mp mz
   cases p.subset mw with
   | head => exact q
   | tail _ mw => exact h.1 _ (List.mem_map_of_mem mw)
theorem ex_sort {α : Type} (key : α → List Nat) : ∀ l : List α, ∃ m : List α, m.Perm l ∧ Srt slt (m.map key)
 | [] => ⟨[], .refl _, .nil⟩
 | x :: l => by
  obtain ⟨m, p, s⟩ := ex_sort key l
  obtain ⟨m', p', s'⟩ := ins_sort key x m s
  exact ⟨m', p'.trans (p.cons x), s'⟩
end
theorem SesAt.off {T : Hp} {sd ep r : Nat} {ss : List Sn} {o o' : AO} (se : SesAt T sd ep ss) (g : T.get r = some o) (q1 : Nat.beq (kd o) 0 = false) (q2 : Nat.beq (kd o) (388 + 6) = false) : SesAt (hput T r o') sd ep ss := ⟨get_kd g se.hd q1, fun y m => ⟨(se.he y m).1, let ⟨h, k⟩ := (se.he y m).2; ⟨h, get_kd g k q2⟩⟩, se.nd⟩
theorem SesAt.keep {T T' : Hp} {sd ep s lr : Nat} {ss : List Sn} {sf : SF} {l : List AV} (se : SesAt T sd ep ss) (hs : T.get s = some sf.ob) (hr : T.get lr = some (.list l)) (u : Upd T.n (fun r _ => r ≠ s ∧ r ≠ lr) T T') : SesAt T' sd ep ss := ⟨u.get ⟨ne_kd hs se.hd rfl, ne_kd hr se.hd rfl⟩ se.hd, fun y m => ⟨(se.he y m).1, let ⟨h, k⟩ := (se.he y m).2; ⟨h, u.get ⟨ne_kd hs k rfl, ne_kd hr k rfl⟩ k⟩⟩, se.nd⟩
section
variable {c : Cx} (ok : Ok c) (hG : c.G = G) {d s lr sp st sd ep m : Nat} {T : Hp} {es : Es} {ss : List Sn} {rev : Int} {x : Sn} {q : List Pl} {C : Nat}
include ok hG
theorem end_ok {i : Nat} (L : L8 T s lr sp st sd ep ss es m rev) (hm : m < 40) (mx : x ∈ ss) (hx : x.num = (i : Int) + 1) (Q : Q8 q C rev) (W : WS es q C) (lsz : ss.length < 4000) : CaP c T 520 [.ref s, .int x.num] (d + 8) fun v T' => ∃ es' m' rev', L8 T' s lr sp st sd (ep + 1) (rmS x.num ss) es' m' rev' ∧ m' ≤ m + 1 ∧ rev ≤ rev' ∧ WS es' (rmN i q) C ∧ Q8 (rmN i q) C rev' ∧ Upd T.n (K8 s lr sd) T T' := by
 obtain ⟨sf, rows, X, hr, e, er⟩ := id L.X
 subst e; subst er
 have hs := X.hs
 have hd := L.se.hd
 have dx := dlk_ses mx L.se.nd
 have ns : ss ≠ [] := fun e => by rw [e] at mx; cases mx
 have u1 : Upd T.n (But sf.ses) T (hput T sf.ses (.dict (ddl (.int x.num) (ss.map Sn.dc)) (ep + 1))) := Upd.refl.set (fun _ k => k rfl) hd
 have X1 := X.cut L.ne hd ns u1
 have u2 : Upd T.n All (hput T sf.ses (.dict (ddl (.int x.num) (ss.map Sn.dc)) (ep + 1))) (hnew (hput T sf.ses (.dict (ddl (.int x.num) (ss.map Sn.dc)) (ep + 1))) (.dict [] 0)) := Upd.refl.new
 have X3 := (X1.new u2).setw (w := T.n) (get_new (hput T sf.ses (.dict (ddl (.int x.num) (ss.map Sn.dc)) (ep + 1))) _)
 have hs1 := X1.hs
 have hs3 := X3.hs
 have hw1 := X1.wat
 have u13 : Upd T.n (fun r _ => r ≠ s ∧ r ≠ sf.ses) T (hput (hnew (hput T sf.ses (.dict (ddl (.int x.num) (ss.map Sn.dc)) (ep + 1))) (.dict [] 0)) s (SF.ob { sf with wat := T.n })) := ((Upd.refl.set (fun _ k => k.2 rfl) hd).new).set (fun _ k => k.1 rfl) hs
 obtain ⟨mm, pm, so⟩ := ex_sort (fun r : List Nat × En => r.1) es
 obtain ⟨dr, ep2, xs, t3, hxs⟩ := id X3.tr
 have lx : (xs.map Nd.p).length < 64 := by rw [List.length_map]; exact Nat.lt_trans t3.sz (lb rfl)
 have pm2 : (mm.map (·.1)).Perm (xs.map Nd.p) := by
  have := pm.map (·.1)
  rw [← hxs, List.map_map] at this; exact this
 have ht3 := t3.ht
 have hd3 := t3.hd
 have sb : (rmS x.num ss).Sublist ss := List.filter_sublist
 have se1 : SesAt (hput T sf.ses (.dict (ddl (.int x.num) (ss.map Sn.dc)) (ep + 1))) sf.ses (ep + 1) (rmS x.num ss) := ⟨by rw [← ddl_ses L.se.nd]; exact get_put hd, fun y my => ⟨(L.se.he y (sb.subset my)).1, let ⟨h, k⟩ := (L.se.he y (sb.subset my)).2; ⟨h, get_kd hd k rfl⟩⟩, (sb.map _).nodup L.se.nd⟩
 have se3 := (se1.new u2).off (o' := SF.ob { sf with wat := T.n }) (X1.new u2).hs rfl rfl
 generalize hH3 : hput (hnew (hput T sf.ses (.dict (ddl (.int x.num) (ss.map Sn.dc)) (ep + 1))) (.dict [] 0)) s (SF.ob { sf with wat := T.n }) = H3 at *
 have n3 : 1 ≤ H3.n := Nat.le_trans L.pn u13.1
 have hps : ∀ r ∈ mm, (∃ x ∈ xs, x.pe = r) ∧ ownE r.2 := fun r mr => ⟨List.mem_map.mp (hxs ▸ pm.subset mr), W.own r (pm.subset mr)⟩
 have lm : mm.length < 60 := by rw [pm.length_eq, ← hxs, List.length_map]; exact t3.sz
 have hsrc : (hnew H3 (.list ((mm.map (·.1)).map .str))).get H3.n = some (.list (mm.map fun r => .str r.1)) := by
  have := get_new H3 (.list ((mm.map (·.1)).map .str)); rw [List.map_map] at this ⊢; exact this
 obtain ⟨T5, h5, g5, u5⟩ := own_loop ok hG (d := d + 7) (T0 := hnew H3 (.list ((mm.map (·.1)).map .str))) (src := H3.n) (A := (hnew H3 (.list ((mm.map (·.1)).map .str))).n) (n := x.num) (Nat.le_refl _) (Nat.le_add_left 1 _) (get_old hs3) (t3.all Upd.refl.new) lm hps hsrc mm [] (hnew (hnew H3 (.list ((mm.map (·.1)).map .str))) (.list [])) (rm [k_dot0, 1769300593] [(1735222900, .ref s), (126883592042095, .int x.num)]) rfl Upd.refl.new (get_new _ _) rfl rfl
 have u35 : Upd H3.n All H3 T5 := Upd.refl.new.then u5 (Nat.le_succ _)
 have X5 := X3.new u35
 have se5 := se3.new u35
 have n5 : 1 ≤ T5.n := Nat.le_trans n3 u35.1
 have pf := pm.filter fun r : List Nat × En => ownB r.2 x.num
 have us' : ∀ y ∈ rmS x.num ss, y.u ≠ [42] := fun y my => L.us y (sb.subset my)
 have u05 : Upd T.n (K8 s lr sf.ses) T T5 := (u13.weak (Nat.le_refl _) fun _ _ p => ⟨p.1, p.2.2.1⟩).then u35.a u13.1
 rcases W.filt (n := x.num) Q with ⟨t, mt, ht, hf⟩ | ⟨hno, hf⟩
 ·rw [hf] at pf
  rw [List.perm_singleton.mp pf] at g5
  have B : Bs es q C := W.elim (fun w => by rw [w.2.1] at mt; cases mt) id
  obtain ⟨_, T6, h6, rfl, row, tt, X6, u6⟩ := vanish_one ok hG (d := d) X5 (Nat.lt_of_le_of_lt hr (Nat.lt_trans hm (lb rfl))) g5 (B.okDel Q mt) n5
  have ei : t.sp = i := sp_inj (ht.trans hx)
  refine C_funQ ok (l := [(1735222900, _), (126883592042095, _)]) (tF hG rfl) rfl fun Qz hQ => ?_
  apply X_consP
  apply S_delS
  apply E_la ok
  exact rfl
  ·(with_reducible repeat' first | assumption | exact get_new _ _ | apply get_put | apply get_old | refine get_nf (by assumption) ?_ | apply get_kd | with_unfolding_all rfl)
  exact tA hG rfl
  exact rfl
  refine E_loc rfl ?_
  apply k_dd
  ·(with_reducible repeat' first | assumption | exact get_new _ _ | apply get_put | apply get_old | refine get_nf (by assumption) ?_ | apply get_kd | with_unfolding_all rfl)
  exact kOk_ses
  rw [List.length_map]; exact lsz
  exact dx
  exact L.pd
  apply X_consP
  apply S_asgL ok
  apply E_dictc ok
  apply E_la ok
  exact rfl
  ·(with_reducible repeat' first | assumption | exact get_new _ _ | apply get_put | apply get_old | refine get_nf (by assumption) ?_ | apply get_kd | with_unfolding_all rfl)
  exact tA hG rfl
  exact rfl
  refine k_ik (ikD hw1 rfl) ?_
  refine k_co (Co_end (turnD (get_old hw1) rfl rfl)) ?_
  apply k_al
  exact rfl
  exact (X1.new u2).hs
  exact tA hG rfl
  exact lb rfl
  exact X.ps
  show ExP c _ _ (hput (hnew (hput T sf.ses (.dict (ddl (.int x.num) (ss.map Sn.dc)) (ep + 1))) (.dict [] 0)) s (SF.ob { sf with wat := T.n })) _ _ _
  rw [hH3]
  apply X_consP
  apply S_ret
  apply E_lm ok
  exact rfl
  ·(with_reducible repeat' first | assumption | exact get_new _ _ | apply get_put | apply get_old | refine get_nf (by assumption) ?_ | apply get_kd | with_unfolding_all rfl)
  exact tM hG rfl
  exact rfl
  apply Es_cons
  apply E_listc
  refine E_callB ok (tG hG rfl) (by first | exact .inl ⟨_, rfl⟩ | exact .inr ⟨_, rfl⟩) ?_
  apply Es_cons
  apply E_attr ok
  apply E_la ok
  exact rfl
  ·(with_reducible repeat' first | assumption | exact get_new _ _ | apply get_put | apply get_old | refine get_nf (by assumption) ?_ | apply get_kd | with_unfolding_all rfl)
  exact tA hG rfl
  exact rfl
  apply k_at2
  ·(with_reducible repeat' first | assumption | exact get_new _ _ | apply get_put | apply get_old | refine get_nf (by assumption) ?_ | apply get_kd | with_unfolding_all rfl)
  exact tA hG rfl
  exact rfl
  apply Es_nil
  refine k_bc (B_sortS (l := xs.map Nd.p) (m := mm.map (·.1)) (by have := Its_dict (c := c) hd3 (by rw [List.length_map, ← List.length_map (f := Nd.p)]; exact lx); rw [dkeys] at this; rw [List.map_map]; exact this) lx pm2 so) ?_
  refine k_ik (ikL (get_new _ _)) ?_
  refine k_co (h5) ?_
  apply Es_nil
  refine k_ca (h6) ?_
  apply hQ
  refine ⟨_, _, _, ⟨⟨_, _, X6, by rw [List.length_append]; exact Nat.succ_le_succ hr, rfl, rfl⟩, se5.keep X5.hs X5.hr u6, us', (B.del Q mt).ne, L.pd, Nat.le_trans n5 u6.1⟩, Nat.le_refl _, Int.le_add_one (Int.le_refl _), ?_, ?_, u05.then (u6.weak (Nat.le_refl _) fun _ _ p => ⟨p.1, p.2.1⟩) u05.1⟩
  ·rw [← ei, ← Q.rm_eq mt]; exact .inr (B.del Q mt)
  ·rw [← ei, ← Q.rm_eq mt]; exact Q.del t.c (Int.le_add_one (Int.le_refl _))
 ·rw [hf] at pf
  rw [List.perm_nil.mp pf] at g5
  have h6 := vanish_no ok hG (d := d + 6) (s := s) g5
  refine C_funQ ok (l := [(1735222900, _), (126883592042095, _)]) (tF hG rfl) rfl fun Qz hQ => ?_
  apply X_consP
  apply S_delS
  apply E_la ok
  exact rfl
  ·(with_reducible repeat' first | assumption | exact get_new _ _ | apply get_put | apply get_old | refine get_nf (by assumption) ?_ | apply get_kd | with_unfolding_all rfl)
  exact tA hG rfl
  exact rfl
  refine E_loc rfl ?_
  apply k_dd
  ·(with_reducible repeat' first | assumption | exact get_new _ _ | apply get_put | apply get_old | refine get_nf (by assumption) ?_ | apply get_kd | with_unfolding_all rfl)
  exact kOk_ses
  rw [List.length_map]; exact lsz
  exact dx
  exact L.pd
  apply X_consP
  apply S_asgL ok
  apply E_dictc ok
  apply E_la ok
  exact rfl
  ·(with_reducible repeat' first | assumption | exact get_new _ _ | apply get_put | apply get_old | refine get_nf (by assumption) ?_ | apply get_kd | with_unfolding_all rfl)
  exact tA hG rfl
  exact rfl
  refine k_ik (ikD hw1 rfl) ?_
  refine k_co (Co_end (turnD (get_old hw1) rfl rfl)) ?_
  apply k_al
  exact rfl
  exact (X1.new u2).hs
  exact tA hG rfl
  exact lb rfl
  exact X.ps
  show ExP c _ _ (hput (hnew (hput T sf.ses (.dict (ddl (.int x.num) (ss.map Sn.dc)) (ep + 1))) (.dict [] 0)) s (SF.ob { sf with wat := T.n })) _ _ _
  rw [hH3]
  apply X_consP
  apply S_ret
  apply E_lm ok
  exact rfl
  ·(with_reducible repeat' first | assumption | exact get_new _ _ | apply get_put | apply get_old | refine get_nf (by assumption) ?_ | apply get_kd | with_unfolding_all rfl)
  exact tM hG rfl
  exact rfl
  apply Es_cons
  apply E_listc
  refine E_callB ok (tG hG rfl) (by first | exact .inl ⟨_, rfl⟩ | exact .inr ⟨_, rfl⟩) ?_
  apply Es_cons
  apply E_attr ok
  apply E_la ok
  exact rfl
  ·(with_reducible repeat' first | assumption | exact get_new _ _ | apply get_put | apply get_old | refine get_nf (by assumption) ?_ | apply get_kd | with_unfolding_all rfl)
  exact tA hG rfl
  exact rfl
  apply k_at2
  ·(with_reducible repeat' first | assumption | exact get_new _ _ | apply get_put | apply get_old | refine get_nf (by assumption) ?_ | apply get_kd | with_unfolding_all rfl)
  exact tA hG rfl
  exact rfl
  apply Es_nil
  refine k_bc (B_sortS (l := xs.map Nd.p) (m := mm.map (·.1)) (by have := Its_dict (c := c) hd3 (by rw [List.length_map, ← List.length_map (f := Nd.p)]; exact lx); rw [dkeys] at this; rw [List.map_map]; exact this) lx pm2 so) ?_
  refine k_ik (ikL (get_new _ _)) ?_
  refine k_co (h5) ?_
  apply Es_nil
  refine k_ca (h6) ?_
  apply hQ
  have hno' : ∀ t ∈ q, t.sp ≠ i := fun t mt e => hno t mt (by rw [e, hx])
  exact ⟨_, _, _, ⟨⟨_, _, X5, hr, rfl, rfl⟩, se5, us', L.ne, L.pd, n5⟩, Nat.le_succ _, Int.le_refl _, by rw [rm_no hno']; exact W, by rw [rm_no hno']; exact Q, u05⟩
end
section
variable {c : Cx} (ok : Ok c) (hG : c.G = G) {d s lr sp st sd ep m : Nat} {T : Hp} {es : Es} {ss : List Sn} {rev : Int} {x : Sn} {q : List Pl} {C : Nat}
include ok hG
theorem close_ok {i : Nat} (L : L8 T s lr sp st sd ep ss es m rev) (hm : m < 40) (mx : x ∈ ss) (hx : x.num = (i : Int) + 1) (Q : Q8 q C rev) (W : WS es q C) (lsz : ss.length < 4000) : CaP c T 515 [.ref s, .int x.num] (d + 9) fun v T' => ∃ es' m' rev', L8 T' s lr sp st sd (ep + 1) (rmS x.num ss) es' m' rev' ∧ m' ≤ m + 1 ∧ rev ≤ rev' ∧ WS es' (rmN i q) C ∧ Q8 (rmN i q) C rev' ∧ Upd T.n (K8 s lr sd) T T' := by
 obtain ⟨sf, rows, X, _, e, _⟩ := id L.X
 subst e
 obtain ⟨px, hh, gx⟩ := L.se.he x mx
 obtain ⟨L1, u1⟩ := L.touch (h2 := sf.tick) gx
 have h1 := session_ok ok hG (d := d + 7) X.hs L.se.hd mx L.se.nd gx px
 obtain ⟨v2, T2, h2, es', m', rev', r1, r2, r3, r4, r5, r6⟩ := end_ok ok hG (d := d) L1 hm mx hx Q W lsz
 have hs := X.hs
 have hs1 := (X.touch (h2 := sf.tick) gx).hs
 refine C_funQ ok (l := [(1735222900, _), (126883592042095, _)]) (tF hG rfl) rfl fun Qz hQ => ?_
 apply X_consP
 apply S_expr
 apply E_lm ok
 exact rfl
 ·(with_reducible repeat' first | assumption | exact get_new _ _ | apply get_put | apply get_old | refine get_nf (by assumption) ?_ | apply get_kd | with_unfolding_all rfl)
 exact tM hG rfl
 exact rfl
 refine Es_loc rfl ?_
 apply Es_nil
 refine k_ca (h1) ?_
 apply X_consP
 apply S_ret
 apply E_lm ok
 exact rfl
 ·(with_reducible repeat' first | assumption | exact get_new _ _ | apply get_put | apply get_old | refine get_nf (by assumption) ?_ | apply get_kd | with_unfolding_all rfl)
 exact tM hG rfl
 exact rfl
 refine Es_loc rfl ?_
 apply Es_nil
 refine k_ca (h2) ?_
 apply hQ
 exact ⟨_, _, _, r1, r2, r3, r4, r5, u1.then r6 u1.1⟩
theorem line_init (hn : 1 ≤ T.n) : CaP c (hnew T (.inst 810 [])) 766 [.ref T.n, .ref s, .str pO] (d + 1) fun v T' => v = .none ∧ T'.get T.n = some (liOb s) ∧ Upd T.n All T T' := by
 refine C_funQ ok (l := [(1735222900, _), (440023414132, _), (1769300593, _)]) (tF hG rfl) rfl fun Qz hQ => ?_
 apply X_consP
 apply S_asgL ok
 refine E_loc rfl ?_
 apply k_al
 exact rfl
 ·(with_reducible repeat' first | assumption | exact get_new _ _ | apply get_put | apply get_old | refine get_nf (by assumption) ?_ | apply get_kd | with_unfolding_all rfl)
 exact tA hG rfl
 exact lb rfl
 first | assumption | exact Nat.le_add_left 1 _ | exact lb rfl
 apply X_consP
 apply S_asgL ok
 refine E_loc rfl ?_
 apply k_al
 exact rfl
 ·(with_reducible repeat' first | assumption | exact get_new _ _ | apply get_put | apply get_old | refine get_nf (by assumption) ?_ | apply get_kd | with_unfolding_all rfl)
 exact tA hG rfl
 exact lb rfl
 first | assumption | exact Nat.le_add_left 1 _ | exact lb rfl
 apply X_nilP
 apply hQ
 exact ⟨rfl, get_put (get_put (get_new _ _)), by (with_reducible repeat' first | assumption | exact Upd.refl | apply Upd.new | apply Upd.put | apply Upd.leA)⟩
theorem lock_init (hn : 1 ≤ T.n) : CaP c (hnew T (.inst 873 [])) 828 [.ref T.n, .ref s, .str pO] (d + 3) fun v T' => v = .none ∧ ∃ ln, T'.get T.n = some (lkOb s ln) ∧ T'.get ln = some (liOb s) ∧ Upd T.n All T T' := by
 have u1 : Upd T.n All T (hput (hnew T (.inst 873 [])) T.n (.inst 873 [(440023414132, .ref s)])) := Upd.refl.new.put (Nat.le_refl _)
 refine C_funQ ok (l := [(1735222900, _), (440023414132, _), (1769300593, _)]) (tF hG rfl) rfl fun Qz hQ => ?_
 apply X_consP
 apply S_asgL ok
 refine E_loc rfl ?_
 apply k_al
 exact rfl
 ·(with_reducible repeat' first | assumption | exact get_new _ _ | apply get_put | apply get_old | refine get_nf (by assumption) ?_ | apply get_kd | with_unfolding_all rfl)
 exact tA hG rfl
 exact lb rfl
 first | assumption | exact Nat.le_add_left 1 _ | exact lb rfl
 apply X_consP
 apply S_asgL ok
 refine E_new ok (tG hG rfl) (tC hG rfl) rfl ?_
 refine Es_loc rfl ?_
 refine Es_loc rfl ?_
 apply Es_nil
 refine CaP.imp (line_init ok hG (d := d) (Nat.le_succ_of_le hn)) ?_
 rintro _ T2 ⟨rfl, g2, u2⟩
 have g3 : T2.get T.n = some (.inst 873 [(440023414132, .ref s)]) := u2.get trivial (get_put (get_new _ _))
 apply k_no
 apply k_al
 exact rfl
 ·(with_reducible repeat' first | assumption | exact get_new _ _ | apply get_put | apply get_old | refine get_nf (by assumption) ?_ | apply get_kd | with_unfolding_all rfl)
 exact tA hG rfl
 exact lb rfl
 first | assumption | exact Nat.le_add_left 1 _ | exact lb rfl
 apply X_nilP
 apply hQ
 exact ⟨rfl, _, get_put g3, get_kd g3 g2 rfl, (u1.then u2 u1.1).put (Nat.le_refl _)⟩
end
noncomputable abbrev nV (n : Nat) : AV := .int (n : Int)
structure Cl8 (T : Hp) (s lr kk ln wh li fe : Nat) (ns : List Int) (lq : List Nat) (fs : List Int) : Prop where
 hk : T.get kk = some (lkOb s ln)
 hln : T.get ln = some (liOb s)
 hw : T.get wh = some (.list [.int 1, .int 2, .int 3])
 hli : T.get li = some (.list (lq.map nV))
 hfe : T.get fe = some (.list (fs.map .int))
 scr : T.get 0 = some (.list (ns.map .int))
 nw : wh ≠ lr
 nl : li ≠ lr
 nf : fe ≠ lr
 wl : wh ≠ li
 fl : fe ≠ li
 wf : wh ≠ fe
 pl : 1 ≤ li
 pf : 1 ≤ fe
 p0 : 1 ≤ lr
structure Sd8 (T : Hp) (s lr sp st sd ep : Nat) (ss : List Sn) (es : Es) (m C : Nat) (q : List Pl) (k : Nat) (rv : Int) : Prop where
 L : L8 T s lr sp st sd ep ss es m rv
 Q : Q8 q C rv
 W : WS es q C
 ck : C ≤ k
 mk' : m ≤ 3 * k
 eye : ∃ y ∈ ss, y.num = 4
 opn : ∀ t ∈ q, ∃ y ∈ ss, y.num = (t.sp : Int) + 1
 len : ss.length ≤ 4
noncomputable def St8 (T : Hp) (s lr sp st sd : Nat) (q : List Pl) (k : Nat) (rv : Int) : Prop := ∃ ep ss es m C, Sd8 T s lr sp st sd ep ss es m C q k rv
noncomputable def Fe8 (fs : List Int) (q : List Pl) (k : Nat) (rv : Int) : Prop := fs.Pairwise (· < ·) ∧ (∀ f ∈ fs, f ≤ rv ∧ ∀ t ∈ q, f ≤ t.ma) ∧ fs.length ≤ k
section
variable {T T' : Hp} {s lr sp st sd ep m C kk ln wh li fe k : Nat} {ss : List Sn} {es : Es} {q : List Pl} {rv : Int} {ns : List Int} {lq : List Nat} {fs : List Int}
theorem Cl8.all (c : Cl8 T s lr kk ln wh li fe ns lq fs) (u : Upd T.n All T T') : Cl8 T' s lr kk ln wh li fe ns lq fs := { c with hk := u.get trivial c.hk, hln := u.get trivial c.hln, hw := u.get trivial c.hw, hli := u.get trivial c.hli, hfe := u.get trivial c.hfe, scr := u.get trivial c.scr }
theorem Cl8.op (c : Cl8 T s lr kk ln wh li fe ns lq fs) (L : L8 T s lr sp st sd ep ss es m rv) (u : Upd T.n (K8 s lr sd) T T') : Cl8 T' s lr kk ln wh li fe ns lq fs := by
 obtain ⟨sf, rows, X, _⟩ := L.X
 have kl : ∀ {r : Nat} {l : List AV}, r ≠ lr → T.get r = some (.list l) → T'.get r = some (.list l) := fun n g => u.get ⟨ne_kd X.hs g rfl, n, ne_kd L.se.hd g rfl, rfl⟩ g
 exact { c with hk := L.kk c.hk u, hln := L.kl c.hln u, hw := kl c.nw c.hw, hli := kl c.nl c.hli, hfe := kl c.nf c.hfe, scr := kl (Nat.ne_of_lt c.p0) c.scr }
theorem Cl8.lin (c : Cl8 T s lr kk ln wh li fe ns lq fs) (lq' : List Nat) : Cl8 (hput T li (.list (lq'.map nV))) s lr kk ln wh li fe ns lq' fs := { c with hk := get_kd c.hli c.hk rfl, hln := get_kd c.hli c.hln rfl, hw := get_nf c.wl c.hw, hli := get_put c.hli, hfe := get_nf c.fl c.hfe, scr := get_nf (Nat.ne_of_lt c.pl) c.scr }
theorem Cl8.fen (c : Cl8 T s lr kk ln wh li fe ns lq fs) (fs' : List Int) : Cl8 (hput T fe (.list (fs'.map .int))) s lr kk ln wh li fe ns lq fs' := { c with hk := get_kd c.hfe c.hk rfl, hln := get_kd c.hfe c.hln rfl, hw := get_nf c.wf c.hw, hli := get_nf (Ne.symm c.fl) c.hli, hfe := get_put c.hfe, scr := get_nf (Nat.ne_of_lt c.pf) c.scr }
theorem Cl8.sw {li' : Nat} {lq' : List Nat} (c : Cl8 T s lr kk ln wh li fe ns lq fs) (h : T.get li' = some (.list (lq'.map nV))) (n1 : li' ≠ lr) (n2 : wh ≠ li') (n3 : fe ≠ li') (p : 1 ≤ li') : Cl8 T s lr kk ln wh li' fe ns lq' fs := { c with hli := h, nl := n1, wl := n2, fl := n3, pl := p }
theorem StoreAt.wl {T : Hp} {s lr sp st r : Nat} {sf : SF} {rows : List Rn} {es : Es} {l o : List AV} (X : StoreAt T s lr sp st sf rows es) (g : T.get r = some (.list l)) (n : r ≠ lr) : StoreAt (hput T r (.list o)) s lr sp st sf rows es := by
 have u : Upd T.n (But r) T (hput T r (.list o)) := Upd.refl.set (fun _ k => k rfl) g
 exact ⟨get_kd g X.hs rfl, X.ps, get_kd g X.hl rfl, get_nf (Ne.symm n) X.hr, X.pl, fun y m => (X.rn y m).upd u fun _ _ h => ne_kd g h rfl, get_kd g X.hp rfl, X.ts.off g rfl rfl rfl, X.tr.off g rfl rfl rfl, get_kd g X.wat rfl, get_kd g X.lea rfl, X.rep, X.lst, X.pos⟩
theorem L8.lst {l : List AV} {r : Nat} {o : List AV} (L : L8 T s lr sp st sd ep ss es m rv) (g : T.get r = some (.list l)) (n : r ≠ lr) : L8 (hput T r (.list o)) s lr sp st sd ep ss es m rv :=
 let ⟨sf, rows, X, hr⟩ := L.X
 { L with X := ⟨sf, rows, X.wl g n, hr⟩, se := L.se.off g rfl rfl, pn := L.pn }
theorem Sd8.new (S : Sd8 T s lr sp st sd ep ss es m C q k rv) (u : Upd T.n All T T') : Sd8 T' s lr sp st sd ep ss es m C q k rv := { S with L := S.L.new u }
theorem lr_lt (L : L8 T s lr sp st sd ep ss es m rv) : lr < T.n := by
 obtain ⟨sf, rows, X, _⟩ := L.X
 exact lt_of_get X.hr
theorem Fe8.mono {q' : List Pl} {k' : Nat} {rv' : Int} (F : Fe8 fs q k rv) (hk : k ≤ k') (h : rv ≤ rv') (hq : ∀ t ∈ q', t ∈ q ∨ rv < t.ma) : Fe8 fs q' k' rv' := ⟨F.1, fun f m => ⟨Int.le_trans (F.2.1 f m).1 h, fun t mt => (hq t mt).elim ((F.2.1 f m).2 t) fun z => Int.le_trans (F.2.1 f m).1 (Int.le_of_lt z)⟩, Nat.le_trans F.2.2 hk⟩
end
structure Lk8 (loc : Loc) (s kk wh li fe : Nat) : Prop where
 h1 : lk loc 129129977701492 = some (.ref 0)
 h2 : lk loc 440023414132 = some (.ref s)
 h3 : lk loc 7367032 = some (.ref wh)
 h4 : lk loc 1818521709 = some (.ref kk)
 h5 : lk loc 1718577773 = some (.ref li)
 h6 : lk loc 127983120508519 = some (.ref fe)
 h7 : lk loc 6716006 = some (.int 4)
theorem Lk8.put {loc : Loc} {s kk wh li fe k : Nat} {v : AV} (h : Lk8 loc s kk wh li fe) (q : (Nat.beq 129129977701492 k || Nat.beq 440023414132 k || Nat.beq 7367032 k || Nat.beq 1818521709 k || Nat.beq 1718577773 k || Nat.beq 127983120508519 k || Nat.beq 6716006 k) = false) : Lk8 (pt loc k v) s kk wh li fe := by
 simp only [Bool.or_eq_false_iff] at q
 obtain ⟨⟨⟨⟨⟨⟨q1, q2⟩, q3⟩, q4⟩, q5⟩, q6⟩, q7⟩ := q
 exact ⟨lk_else q1 h.h1, lk_else q2 h.h2, lk_else q3 h.h3, lk_else q4 h.h4, lk_else q5 h.h5, lk_else q6 h.h6, lk_else q7 h.h7⟩
theorem Lk8.lin {loc : Loc} {s kk wh li li' fe : Nat} (h : Lk8 loc s kk wh li fe) : Lk8 (pt loc 1718577773 (.ref li')) s kk wh li' fe := ⟨lk_else rfl h.h1, lk_else rfl h.h2, lk_else rfl h.h3, lk_else rfl h.h4, lk_same, lk_else rfl h.h6, lk_else rfl h.h7⟩
noncomputable abbrev actS : PS := (.ite (.cmp .isin (.sub (.loc 7367032) (.loc 1970303348)) (.attr (.loc 440023414132) 8390048233337153140)) (.cons (.ite (.cmp .lt (.loc 7693410) (.int 2)) (.cons (.asg 1701668457 (.meth (.loc 1818521709) 28837348715422818 (.cons (.sub (.loc 7367032) (.loc 1970303348)) .nil))) (.cons (.ite (.cmp .notin (.loc 1970303348) (.loc 1718577773)) (.cons (.expr (.meth (.loc 1718577773) 111529134485858 (.cons (.loc 1970303348) .nil))) .nil) .nil) (.cons (.ite (.cmp .ne (.loc 1701668457) (.cmp .eq (.sub (.loc 1718577773) (.int 0)) (.loc 1970303348))) (.cons (.ret (.bool false)) .nil) .nil) .nil))) (.cons (.ite (.cmp .eq (.loc 7693410) (.int 2)) (.cons (.ite (.cmp .ne (.meth (.loc 1818521709) 28838413598549619 (.cons (.sub (.loc 7367032) (.loc 1970303348)) .nil)) (.cmp .isin (.loc 1970303348) (.loc 1718577773))) (.cons (.ret (.bool false)) .nil) .nil) (.cons (.asgC 1718577773 (.loc 6713200) [6713200] (.loc 1718577773) (.cons (.cmp .ne (.loc 6713200) (.loc 1970303348)) .nil)) .nil)) (.cons (.ite (.cmp .eq (.bin .mod (.bin .fdiv (.loc 440073544311) (.int 12)) (.int 3)) (.int 0)) (.cons (.expr (.meth (.loc 440023414132) 440040189284 (.cons (.sub (.loc 7367032) (.loc 1970303348)) .nil))) (.cons (.asgC 1718577773 (.loc 6713200) [6713200] (.loc 1718577773) (.cons (.cmp .ne (.loc 6713200) (.loc 1970303348)) .nil)) .nil)) .nil) .nil)) .nil)) .nil) .nil)
noncomputable abbrev liI : PEs := .cons (.cmp .ne (.loc 6713200) (.loc 1970303348)) .nil
theorem who_at {i : Nat} (h : i < 3) : ([.int 1, .int 2, .int 3] : List AV)[i]? = some (.int ((i : Int) + 1)) := by
 match i, h with
 | 0, _ => rfl
 | 1, _ => rfl
 | 2, _ => rfl
theorem kin_all {lq : List Nat} {v : Int} : (lq.map nV).all (kin · (.int v)) = true := List.all_eq_true.mpr fun x m => by
 obtain ⟨n, _, rfl⟩ := List.mem_map.mp m
 rfl
theorem any_yes {lq : List Nat} {i : Nat} (h : i ∈ lq) : (lq.map nV).any (sq · (nV i)) = true := List.any_eq_true.mpr ⟨nV i, List.mem_map_of_mem h, decide_eq_true rfl⟩
theorem any_no {lq : List Nat} {i : Nat} (h : i ∉ lq) : (lq.map nV).any (sq · (nV i)) = false := by
 rw [Bool.eq_false_iff]
 intro e
 obtain ⟨x, m, k⟩ := List.any_eq_true.mp e
 obtain ⟨n, mn, rfl⟩ := List.mem_map.mp m
 have : (n : Int) = i := of_decide_eq_true k
 exact h (Int.ofNat_inj.mp this ▸ mn)
theorem line_rm {q : List Pl} {i : Nat} : (q.map Pl.sp).filter (fun n => !decide (n = i)) = (rmN i q).map Pl.sp := by
 unfold rmN; rw [List.filter_map]; rfl
theorem hold_eq {t : Pl} {l : List Pl} {i : Nat} : hold (t :: l) ((i : Int) + 1) = decide ((t.sp : Int) = (i : Int)) := by
 show decide _ = decide _
 exact decide_eq_decide.mpr ⟨fun h => congrArg _ (sp_inj h), fun h => by rw [h]⟩
section
variable {c : Cx} (ok : Ok c) (hG : c.G = G) {d : Nat} {T0 : Hp}
include ok hG
theorem lin_loop {src A i : Nat} {lq : List Nat} (hA : T0.n ≤ A) (h1 : 1 ≤ A) (sz : lq.length < 60) (hsrc : T0.get src = some (.list (lq.map nV))) (l : List Nat) : ∀ (pr : List Nat) (T : Hp) (loc : Loc), lq = pr ++ l → Upd T0.n All T0 T → T.get A = some (.list ((pr.filter fun n => !decide (n = i)).map nV)) → lk loc 1970303348 = some (nV i) →
  CoP c d loc T (.list (.loc 6713200)) A [6713200] src .list pr.length liI fun T' => T'.get A = some (.list ((lq.filter fun n => !decide (n = i)).map nV)) ∧ Upd T0.n All T0 T' := by
 induction l with
 | nil =>
  intro pr T loc hx u ha k1
  rw [List.append_nil] at hx; subst hx
  exact Co_endP (turnL (u.get trivial hsrc) (get_end _ _)) ⟨ha, u⟩
 | cons n l ih =>
  intro pr T loc hx u ha k1
  have k2 : lk (pt loc 6713200 (nV n)) 1970303348 = some (nV i) := lk_else rfl k1
  have k3 : lk (pt loc 6713200 (nV n)) 6713200 = some (nV n) := lk_same
  have tn := turnL (j := pr.length) (x := some (nV n)) (u.get trivial hsrc) (by rw [hx]; exact get_mid _ _ _ _)
  have ih := fun T => ih (pr ++ [n]) T (pt loc 6713200 (nV n)) (by rw [hx, List.append_assoc]; rfl)
  rw [List.length_append] at ih
  by_cases z : n = i
  ·refine Co_skipP tn bind_one ?_
   apply Te_stopP; apply T_cmpP
   refine E_loc k3 ?_
   refine E_loc k2 ?_
   refine k_cm false (C_ne (t := true) (congrArg some (decide_eq_true (by rw [z])))) ?_
   apply k_ye; apply k_ye
   refine ih T u ?_ k2
   rw [List.filter_append, List.filter_cons_of_neg (by rw [decide_eq_true z]; exact Bool.false_ne_true)]
   show T.get A = some (.list ((pr.filter _ ++ []).map nV))
   rw [List.append_nil]; exact ha
  ·refine Co_listP tn bind_one ?_
   apply Te_goP; apply T_cmpP
   refine E_loc k3 ?_
   refine E_loc k2 ?_
   refine k_cm true (C_ne (t := false) (congrArg some (decide_eq_false fun e => z (Int.ofNat_inj.mp e)))) ?_
   apply k_ye; apply Te_nilP; apply k_ye
   refine E_loc k3 ?_
   refine k_ap ha (by rw [List.length_map]; exact lt4 (Nat.le_trans (List.length_filter_le _ _) (Nat.le_trans (by rw [hx, List.length_append]; exact Nat.le_add_right _ _) (Nat.le_of_lt sz))) rfl) h1 ?_
   refine ih _ (u.put hA) ?_ k2
   rw [List.filter_append, List.filter_cons_of_pos (by rw [decide_eq_false z]; rfl), List.map_append]
   exact get_put ha
end
section
variable {c : Cx} (ok : Ok c) (hG : c.G = G) {d s lr sp st sd ep m C kk ln wh li fe k i : Nat} {T : Hp} {ss : List Sn} {es : Es} {q : List Pl} {rv : Int} {ns : List Int} {fs : List Int} {loc : Loc} {x : Sn}
noncomputable abbrev PostA (s lr sp st sd kk ln wh fe : Nat) (ns fs : List Int) (k : Nat) : Loc → Hp → Prop := fun l T' => ∃ q' li' rv', St8 T' s lr sp st sd q' (k + 1) rv' ∧ Cl8 T' s lr kk ln wh li' fe ns (q'.map Pl.sp) fs ∧ Fe8 fs q' (k + 1) rv' ∧ Lk8 l s kk wh li' fe
theorem any_sp {t : Pl} (h : t ∈ q) (e : t.sp = i) : i ∈ q.map Pl.sp := e ▸ List.mem_map_of_mem h
include ok hG
theorem act_acq (S : Sd8 T s lr sp st sd ep ss es m C q k rv) (cl : Cl8 T s lr kk ln wh li fe ns (q.map Pl.sp) fs) (F : Fe8 fs q k rv) (hk : k < 10) (lc : Lk8 loc s kk wh li fe) (hi : lk loc 1970303348 = some (nV i)) (i3 : i < 3) {a : Int} (ha : lk loc 7693410 = some (.int a)) (mx : x ∈ ss) (hx : x.num = (i : Int) + 1) (h2 : a < 2) : StP c (d + 16) loc T actS (PostA s lr sp st sd kk ln wh fe ns fs k) (fun _ _ => False) := by
 generalize hN : PostA s lr sp st sd kk ln wh fe ns fs k = N
 obtain ⟨l1, l2, l3, l4, l5, l6, l7⟩ := id lc
 obtain ⟨sf, rows, X, _, e, _⟩ := id S.L.X
 have hs := X.hs
 have hd := S.L.se.hd
 rw [← e] at hd
 have dx := dlk_ses mx S.L.se.nd
 rw [hx] at dx
 have hk0 := cl.hk
 obtain ⟨_, T1, h1, es', m', rv', q', C', rfl, L1, a1, a2, a3, a4, a5, a6, u1⟩ := acquire_ok ok hG (d := d) S.L (Nat.lt_of_le_of_lt S.mk' (Nat.lt_of_lt_of_le (Nat.mul_lt_mul_of_pos_left hk (lb rfl : 0 < 3)) (Nat.le_refl 30))) mx hx i3 S.Q (Nat.lt_of_le_of_lt S.ck hk) S.W cl.hk cl.hln
 have cl1 := cl.op S.L u1
 have S1 : ∀ {T2 : Hp}, L8 T2 s lr sp st sd ep ss es' m' rv' → Sd8 T2 s lr sp st sd ep ss es' m' C' q' (k + 1) rv' := fun L2 => ⟨L2, a5, .inr a3, Nat.le_trans a4 (Nat.succ_le_succ S.ck), Nat.le_trans a1 (Nat.add_le_add_right S.mk' 3), S.eye, (by
  intro t mt
  rcases a6 with ⟨_, rfl⟩ | ⟨_, _, _, rfl, _⟩
  ·exact S.opn t mt
  ·rcases List.mem_append.mp mt with mt | mt
   ·exact S.opn t mt
   ·cases List.mem_singleton.mp mt; exact ⟨x, mx, hx⟩), S.len⟩
 have F1 : Fe8 fs q' (k + 1) rv' := F.mono (Nat.le_succ _) a2 (by
  intro t mt
  rcases a6 with ⟨_, rfl⟩ | ⟨_, _, _, rfl, h⟩
  ·exact .inl mt
  ·rcases List.mem_append.mp mt with mt | mt
   ·exact .inl mt
   ·cases List.mem_singleton.mp mt; exact .inr h)
 have hli1 := cl1.hli
 rcases a6 with ⟨⟨t, mt, et⟩, rfl⟩ | ⟨hno, c9, r9, rfl, _⟩
 ·obtain ⟨t0, l0, eq⟩ : ∃ t0 l0, q' = t0 :: l0 := by
   cases q' with
   | nil => cases mt
   | cons t0 l0 => exact ⟨t0, l0, rfl⟩
  have he : hold q' ((i : Int) + 1) = decide ((t0.sp : Int) = (i : Int)) := by rw [eq]; exact hold_eq
  have h0 : ((q'.map Pl.sp).map nV)[0]? = some (nV t0.sp) := by rw [eq]; rfl
  rw [hx, he] at h1
  apply S_if
  apply T_cmpP
  apply E_sub
  refine E_loc (by with_reducible repeat' first | assumption | exact lk_same | apply lk_else | with_unfolding_all rfl) ?_
  refine E_loc (by with_reducible repeat' first | assumption | exact lk_same | apply lk_else | with_unfolding_all rfl) ?_
  refine k_it (I_list (v := .int ((i : Int) + 1)) (j := i) cl.hw (who_at i3) (Nat.lt_trans i3 (lb rfl))) ?_
  apply E_la ok
  exact (by with_reducible repeat' first | assumption | exact lk_same | apply lk_else | with_unfolding_all rfl)
  ·(with_reducible repeat' first | assumption | exact get_new _ _ | apply get_put | apply get_old | refine get_nf (by assumption) ?_ | apply get_kd | with_unfolding_all rfl)
  exact tA hG rfl
  exact rfl
  refine k_cm true (cmt (C_inD hd kOk_ses) (by rw [dx]; rfl)) ?_
  apply X_consP
  apply S_if
  apply T_cmpP
  refine E_loc (by with_reducible repeat' first | assumption | exact lk_same | apply lk_else | with_unfolding_all rfl) ?_
  apply E_int
  refine k_cm true (cmt C_lt (decide_eq_true h2)) ?_
  apply X_consP
  apply S_asg
  apply E_lm ok
  exact (by with_reducible repeat' first | assumption | exact lk_same | apply lk_else | with_unfolding_all rfl)
  ·(with_reducible repeat' first | assumption | exact get_new _ _ | apply get_put | apply get_old | refine get_nf (by assumption) ?_ | apply get_kd | with_unfolding_all rfl)
  exact tM hG rfl
  exact rfl
  apply Es_cons
  apply E_sub
  refine E_loc (by with_reducible repeat' first | assumption | exact lk_same | apply lk_else | with_unfolding_all rfl) ?_
  refine E_loc (by with_reducible repeat' first | assumption | exact lk_same | apply lk_else | with_unfolding_all rfl) ?_
  refine k_it (I_list (v := .int ((i : Int) + 1)) (j := i) cl.hw (who_at i3) (Nat.lt_trans i3 (lb rfl))) ?_
  apply Es_nil
  refine k_ca (h1) ?_
  apply X_consP
  apply S_if
  apply T_cmpP
  refine E_loc (by with_reducible repeat' first | assumption | exact lk_same | apply lk_else | with_unfolding_all rfl) ?_
  refine E_loc (by with_reducible repeat' first | assumption | exact lk_same | apply lk_else | with_unfolding_all rfl) ?_
  refine k_cm false (cmt (C_nin (.inr hli1) kin_all) (by rw [any_yes (any_sp mt et)]; rfl)) ?_
  apply X_nilP
  apply X_consP
  apply S_if
  apply T_cmpP
  refine E_loc (by with_reducible repeat' first | assumption | exact lk_same | apply lk_else | with_unfolding_all rfl) ?_
  apply E_cmp
  apply E_sub
  refine E_loc (by with_reducible repeat' first | assumption | exact lk_same | apply lk_else | with_unfolding_all rfl) ?_
  apply E_int
  refine k_it (I_list (v := nV t0.sp) (j := 0) hli1 h0 (lb rfl)) ?_
  refine E_loc (by with_reducible repeat' first | assumption | exact lk_same | apply lk_else | with_unfolding_all rfl) ?_
  refine k_cm _ (C_eq rfl) ?_
  refine k_cm false (C_ne (t := true) (congrArg some (decide_eq_true rfl))) ?_
  apply X_nilP
  apply X_nilP
  apply X_nilP
  subst hN
  exact ⟨q', li, rv', ⟨_, _, _, _, _, S1 L1⟩, cl1, F1, lc.put rfl⟩
 ·have ni : i ∉ q.map Pl.sp := fun m => by
   obtain ⟨t, mt, e⟩ := List.mem_map.mp m
   exact hno t mt e
  obtain ⟨t0, l0, eq⟩ : ∃ t0 l0, q ++ [(⟨c9, i, r9⟩ : Pl)] = t0 :: l0 := by
   cases q with
   | nil => exact ⟨_, _, rfl⟩
   | cons t0 l0 => exact ⟨_, _, rfl⟩
  have he : hold (q ++ [(⟨c9, i, r9⟩ : Pl)]) ((i : Int) + 1) = decide ((t0.sp : Int) = (i : Int)) := by rw [eq]; exact hold_eq
  have em : (q.map Pl.sp).map nV ++ [nV i] = ((q ++ [(⟨c9, i, r9⟩ : Pl)]).map Pl.sp).map nV := by rw [List.map_append, List.map_append]; rfl
  have h0 : (((q ++ [(⟨c9, i, r9⟩ : Pl)]).map Pl.sp).map nV)[0]? = some (nV t0.sp) := by rw [eq]; rfl
  rw [hx, he] at h1
  have cl2 := cl1.lin ((q ++ [(⟨c9, i, r9⟩ : Pl)]).map Pl.sp)
  have hli2 := cl2.hli
  have L2 := L1.lst (o := (((q ++ [(⟨c9, i, r9⟩ : Pl)]).map Pl.sp).map nV)) hli1 cl1.nl
  apply S_if
  apply T_cmpP
  apply E_sub
  refine E_loc (by with_reducible repeat' first | assumption | exact lk_same | apply lk_else | with_unfolding_all rfl) ?_
  refine E_loc (by with_reducible repeat' first | assumption | exact lk_same | apply lk_else | with_unfolding_all rfl) ?_
  refine k_it (I_list (v := .int ((i : Int) + 1)) (j := i) cl.hw (who_at i3) (Nat.lt_trans i3 (lb rfl))) ?_
  apply E_la ok
  exact (by with_reducible repeat' first | assumption | exact lk_same | apply lk_else | with_unfolding_all rfl)
  ·(with_reducible repeat' first | assumption | exact get_new _ _ | apply get_put | apply get_old | refine get_nf (by assumption) ?_ | apply get_kd | with_unfolding_all rfl)
  exact tA hG rfl
  exact rfl
  refine k_cm true (cmt (C_inD hd kOk_ses) (by rw [dx]; rfl)) ?_
  apply X_consP
  apply S_if
  apply T_cmpP
  refine E_loc (by with_reducible repeat' first | assumption | exact lk_same | apply lk_else | with_unfolding_all rfl) ?_
  apply E_int
  refine k_cm true (cmt C_lt (decide_eq_true h2)) ?_
  apply X_consP
  apply S_asg
  apply E_lm ok
  exact (by with_reducible repeat' first | assumption | exact lk_same | apply lk_else | with_unfolding_all rfl)
  ·(with_reducible repeat' first | assumption | exact get_new _ _ | apply get_put | apply get_old | refine get_nf (by assumption) ?_ | apply get_kd | with_unfolding_all rfl)
  exact tM hG rfl
  exact rfl
  apply Es_cons
  apply E_sub
  refine E_loc (by with_reducible repeat' first | assumption | exact lk_same | apply lk_else | with_unfolding_all rfl) ?_
  refine E_loc (by with_reducible repeat' first | assumption | exact lk_same | apply lk_else | with_unfolding_all rfl) ?_
  refine k_it (I_list (v := .int ((i : Int) + 1)) (j := i) cl.hw (who_at i3) (Nat.lt_trans i3 (lb rfl))) ?_
  apply Es_nil
  refine k_ca (h1) ?_
  apply X_consP
  apply S_if
  apply T_cmpP
  refine E_loc (by with_reducible repeat' first | assumption | exact lk_same | apply lk_else | with_unfolding_all rfl) ?_
  refine E_loc (by with_reducible repeat' first | assumption | exact lk_same | apply lk_else | with_unfolding_all rfl) ?_
  refine k_cm true (cmt (C_nin (.inr hli1) kin_all) (by rw [any_no ni]; rfl)) ?_
  apply X_consP
  apply S_expr
  apply E_methB
  refine E_loc (by with_reducible repeat' first | assumption | exact lk_same | apply lk_else | with_unfolding_all rfl) ?_
  refine k_bg (G_append hli1) ?_
  refine Es_loc (by with_reducible repeat' first | assumption | exact lk_same | apply lk_else | with_unfolding_all rfl) ?_
  apply Es_nil
  refine k_bm (M_append hli1 (by rw [List.length_map, List.length_map]; exact lt4 (Nat.le_trans S.Q.len S.Q.c10) rfl) cl1.pl) ?_
  rw [em]
  apply X_nilP
  apply X_consP
  apply S_if
  apply T_cmpP
  refine E_loc (by with_reducible repeat' first | assumption | exact lk_same | apply lk_else | with_unfolding_all rfl) ?_
  apply E_cmp
  apply E_sub
  refine E_loc (by with_reducible repeat' first | assumption | exact lk_same | apply lk_else | with_unfolding_all rfl) ?_
  apply E_int
  refine k_it (I_list (v := nV t0.sp) (j := 0) hli2 h0 (lb rfl)) ?_
  refine E_loc (by with_reducible repeat' first | assumption | exact lk_same | apply lk_else | with_unfolding_all rfl) ?_
  refine k_cm _ (C_eq rfl) ?_
  refine k_cm false (C_ne (t := true) (congrArg some (decide_eq_true rfl))) ?_
  apply X_nilP
  apply X_nilP
  apply X_nilP
  subst hN
  exact ⟨_, li, rv', ⟨_, _, _, _, _, S1 L2⟩, cl2, F1, lc.put rfl⟩
end
theorem rmS_eye {ss : List Sn} {n : Int} (h : ∃ y ∈ ss, y.num = 4) (ne : n ≠ 4) : ∃ y ∈ rmS n ss, y.num = 4 := by
 obtain ⟨y, m, e⟩ := h
 exact ⟨y, List.mem_filter.mpr ⟨m, by rw [e, decide_eq_false fun z => ne z.symm]; rfl⟩, e⟩
theorem lk_rmn {xs : List Nat} {x : Nat} {v : AV} (h : hasN xs x = false) {l : Loc} (e : lk l x = some v) : lk (rm xs l) x = some v := by
 induction l with
 | nil => cases e
 | cons p r ih =>
  obtain ⟨k, w⟩ := p
  rw [lk_cons] at e
  show lk (cond (hasN xs k) (rm xs r) ((k, w) :: rm xs r)) x = some v
  by_cases z : k = x
  ·rw [if_pos z] at e
   rw [z, h]
   show lk ((x, w) :: rm xs r) x = some v
   rw [lk_cons, if_pos rfl]; exact e
  ·rw [if_neg z] at e
   cases hasN xs k
   ·show lk ((k, w) :: rm xs r) x = some v
    rw [lk_cons, if_neg z]; exact ih e
   ·exact ih e
section
variable {c : Cx} (ok : Ok c) (hG : c.G = G) {d s lr sp st sd ep m C kk ln wh li fe k i : Nat} {T : Hp} {ss : List Sn} {es : Es} {q : List Pl} {rv : Int} {ns : List Int} {fs : List Int} {loc : Loc} {x : Sn}
theorem Sd8.m30 (S : Sd8 T s lr sp st sd ep ss es m C q k rv) (hk : k < 10) : m < 30 := Nat.lt_of_le_of_lt S.mk' (Nat.lt_of_lt_of_le (Nat.mul_lt_mul_of_pos_left hk (lb rfl : 0 < 3)) (Nat.le_refl 30))
theorem Sd8.up (S : Sd8 T s lr sp st sd ep ss es m C q k rv) : Sd8 T s lr sp st sd ep ss es m C q (k + 1) rv := { S with ck := Nat.le_succ_of_le S.ck, mk' := Nat.le_trans S.mk' (Nat.mul_le_mul_left 3 (Nat.le_succ k)) }
theorem m_suc (S : Sd8 T s lr sp st sd ep ss es m C q k rv) : m + 1 ≤ 3 * (k + 1) := Nat.le_trans (Nat.succ_le_succ S.mk') (Nat.add_le_add_left (lb rfl : 1 ≤ 3) (3 * k))
theorem rm_sub {t : Pl} (h : t ∈ rmN i q) : t ∈ q ∧ t.sp ≠ i := by
 obtain ⟨h1, h2⟩ := List.mem_filter.mp h
 exact ⟨h1, fun e => by rw [decide_eq_true e] at h2; cases h2⟩
include ok hG
theorem act_off (S : Sd8 T s lr sp st sd ep ss es m C q k rv) (cl : Cl8 T s lr kk ln wh li fe ns (q.map Pl.sp) fs) (F : Fe8 fs q k rv) (lc : Lk8 loc s kk wh li fe) (hi : lk loc 1970303348 = some (nV i)) (i3 : i < 3) (no : (i : Int) + 1 ∉ ss.map Sn.num) : StP c (d + 16) loc T actS (PostA s lr sp st sd kk ln wh fe ns fs k) (fun _ _ => False) := by
 generalize hN : PostA s lr sp st sd kk ln wh fe ns fs k = N
 obtain ⟨l1, l2, l3, l4, l5, l6, l7⟩ := id lc
 obtain ⟨sf, rows, X, _, e, _⟩ := id S.L.X
 have hs := X.hs
 have hd := S.L.se.hd
 rw [← e] at hd
 apply S_if
 apply T_cmpP
 apply E_sub
 refine E_loc (by with_reducible repeat' first | assumption | exact lk_same | apply lk_else | with_unfolding_all rfl) ?_
 refine E_loc (by with_reducible repeat' first | assumption | exact lk_same | apply lk_else | with_unfolding_all rfl) ?_
 refine k_it (I_list (v := .int ((i : Int) + 1)) (j := i) cl.hw (who_at i3) (Nat.lt_trans i3 (lb rfl))) ?_
 apply E_la ok
 exact (by with_reducible repeat' first | assumption | exact lk_same | apply lk_else | with_unfolding_all rfl)
 ·(with_reducible repeat' first | assumption | exact get_new _ _ | apply get_put | apply get_old | refine get_nf (by assumption) ?_ | apply get_kd | with_unfolding_all rfl)
 exact tA hG rfl
 exact rfl
 refine k_cm false (cmt (C_inD hd kOk_ses) (by rw [dlk_sno no]; rfl)) ?_
 apply X_nilP
 subst hN
 exact ⟨q, li, rv, ⟨_, _, _, _, _, S.up⟩, cl, F.mono (Nat.le_succ _) (Int.le_refl _) (fun t mt => .inl mt), lc⟩
theorem act_nil (S : Sd8 T s lr sp st sd ep ss es m C q k rv) (cl : Cl8 T s lr kk ln wh li fe ns (q.map Pl.sp) fs) (F : Fe8 fs q k rv) (lc : Lk8 loc s kk wh li fe) (hi : lk loc 1970303348 = some (nV i)) (i3 : i < 3) {a v : Int} (ha : lk loc 7693410 = some (.int a)) (hv : lk loc 440073544311 = some (.int v)) (mx : x ∈ ss) (hx : x.num = (i : Int) + 1) (h2 : ¬ a < 2) (h3 : ¬ a = 2) (h4 : ¬ Int.fmod (Int.fdiv v 12) 3 = 0) : StP c (d + 16) loc T actS (PostA s lr sp st sd kk ln wh fe ns fs k) (fun _ _ => False) := by
 generalize hN : PostA s lr sp st sd kk ln wh fe ns fs k = N
 obtain ⟨l1, l2, l3, l4, l5, l6, l7⟩ := id lc
 obtain ⟨sf, rows, X, _, e, _⟩ := id S.L.X
 have hs := X.hs
 have hd := S.L.se.hd
 rw [← e] at hd
 have dx := dlk_ses mx S.L.se.nd
 rw [hx] at dx
 apply S_if
 apply T_cmpP
 apply E_sub
 refine E_loc (by with_reducible repeat' first | assumption | exact lk_same | apply lk_else | with_unfolding_all rfl) ?_
 refine E_loc (by with_reducible repeat' first | assumption | exact lk_same | apply lk_else | with_unfolding_all rfl) ?_
 refine k_it (I_list (v := .int ((i : Int) + 1)) (j := i) cl.hw (who_at i3) (Nat.lt_trans i3 (lb rfl))) ?_
 apply E_la ok
 exact (by with_reducible repeat' first | assumption | exact lk_same | apply lk_else | with_unfolding_all rfl)
 ·(with_reducible repeat' first | assumption | exact get_new _ _ | apply get_put | apply get_old | refine get_nf (by assumption) ?_ | apply get_kd | with_unfolding_all rfl)
 exact tA hG rfl
 exact rfl
 refine k_cm true (cmt (C_inD hd kOk_ses) (by rw [dx]; rfl)) ?_
 apply X_consP
 apply S_if
 apply T_cmpP
 refine E_loc (by with_reducible repeat' first | assumption | exact lk_same | apply lk_else | with_unfolding_all rfl) ?_
 apply E_int
 refine k_cm false (cmt C_lt (decide_eq_false h2)) ?_
 apply X_consP
 apply S_if
 apply T_cmpP
 refine E_loc (by with_reducible repeat' first | assumption | exact lk_same | apply lk_else | with_unfolding_all rfl) ?_
 apply E_int
 refine k_cm false (C_eq (congrArg some (decide_eq_false h3))) ?_
 apply X_consP
 apply S_if
 apply T_cmpP
 apply E_bin
 apply E_bin
 refine E_loc (by with_reducible repeat' first | assumption | exact lk_same | apply lk_else | with_unfolding_all rfl) ?_
 apply E_int
 refine k_bi (B_divI (by decide) (by decide)) ?_
 apply E_int
 refine k_bi (B_modI (by decide)) ?_
 apply E_int
 refine k_cm false (C_eq (congrArg some (decide_eq_false h4))) ?_
 apply X_nilP
 apply X_nilP
 apply X_nilP
 apply X_nilP
 subst hN
 exact ⟨q, li, rv, ⟨_, _, _, _, _, S.up⟩, cl, F.mono (Nat.le_succ _) (Int.le_refl _) (fun t mt => .inl mt), lc⟩
theorem act_end (S : Sd8 T s lr sp st sd ep ss es m C q k rv) (cl : Cl8 T s lr kk ln wh li fe ns (q.map Pl.sp) fs) (F : Fe8 fs q k rv) (hk : k < 10) (lc : Lk8 loc s kk wh li fe) (hi : lk loc 1970303348 = some (nV i)) (i3 : i < 3) {a v : Int} (ha : lk loc 7693410 = some (.int a)) (hv : lk loc 440073544311 = some (.int v)) (mx : x ∈ ss) (hx : x.num = (i : Int) + 1) (h2 : ¬ a < 2) (h3 : ¬ a = 2) (h4 : Int.fmod (Int.fdiv v 12) 3 = 0) : StP c (d + 16) loc T actS (PostA s lr sp st sd kk ln wh fe ns fs k) (fun _ _ => False) := by
 generalize hN : PostA s lr sp st sd kk ln wh fe ns fs k = N
 obtain ⟨l1, l2, l3, l4, l5, l6, l7⟩ := id lc
 obtain ⟨sf, rows, X, _, e, _⟩ := id S.L.X
 have hs := X.hs
 have hd := S.L.se.hd
 rw [← e] at hd
 have dx := dlk_ses mx S.L.se.nd
 rw [hx] at dx
 obtain ⟨v1, T1, h1, es', m', rv', L1, a1, a2, a3, a4, u1⟩ := close_ok ok hG (d := d + 7) (i := i) S.L (Nat.lt_trans (S.m30 hk) (lb rfl)) mx hx S.Q S.W (Nat.lt_of_le_of_lt S.len (lb rfl))
 rw [hx] at h1
 have cl1 := cl.op S.L u1
 obtain ⟨T2, hc, g2, u2⟩ := lin_loop ok hG (d := d + 16) (T0 := T1) (A := T1.n) (i := i) (lq := q.map Pl.sp) (Nat.le_refl _) L1.pn (by rw [List.length_map]; exact Nat.lt_of_le_of_lt (Nat.le_trans S.Q.len S.Q.c10) (lb rfl)) cl1.hli (q.map Pl.sp) [] (hnew T1 (.list [])) (rm [k_dot0, 6713200] loc) rfl Upd.refl.new (get_new _ _) (lk_rmn rfl hi)
 rw [line_rm] at g2
 have L2 := L1.new u2
 have cl2 := (cl1.all u2).sw g2 (Nat.ne_of_gt (lr_lt L1)) (Nat.ne_of_lt (lt_of_get cl1.hw)) (Nat.ne_of_lt (lt_of_get cl1.hfe)) L1.pn
 have hli1 := cl1.hli
 apply S_if
 apply T_cmpP
 apply E_sub
 refine E_loc (by with_reducible repeat' first | assumption | exact lk_same | apply lk_else | with_unfolding_all rfl) ?_
 refine E_loc (by with_reducible repeat' first | assumption | exact lk_same | apply lk_else | with_unfolding_all rfl) ?_
 refine k_it (I_list (v := .int ((i : Int) + 1)) (j := i) cl.hw (who_at i3) (Nat.lt_trans i3 (lb rfl))) ?_
 apply E_la ok
 exact (by with_reducible repeat' first | assumption | exact lk_same | apply lk_else | with_unfolding_all rfl)
 ·(with_reducible repeat' first | assumption | exact get_new _ _ | apply get_put | apply get_old | refine get_nf (by assumption) ?_ | apply get_kd | with_unfolding_all rfl)
 exact tA hG rfl
 exact rfl
 refine k_cm true (cmt (C_inD hd kOk_ses) (by rw [dx]; rfl)) ?_
 apply X_consP
 apply S_if
 apply T_cmpP
 refine E_loc (by with_reducible repeat' first | assumption | exact lk_same | apply lk_else | with_unfolding_all rfl) ?_
 apply E_int
 refine k_cm false (cmt C_lt (decide_eq_false h2)) ?_
 apply X_consP
 apply S_if
 apply T_cmpP
 refine E_loc (by with_reducible repeat' first | assumption | exact lk_same | apply lk_else | with_unfolding_all rfl) ?_
 apply E_int
 refine k_cm false (C_eq (congrArg some (decide_eq_false h3))) ?_
 apply X_consP
 apply S_if
 apply T_cmpP
 apply E_bin
 apply E_bin
 refine E_loc (by with_reducible repeat' first | assumption | exact lk_same | apply lk_else | with_unfolding_all rfl) ?_
 apply E_int
 refine k_bi (B_divI (by decide) (by decide)) ?_
 apply E_int
 refine k_bi (B_modI (by decide)) ?_
 apply E_int
 refine k_cm true (C_eq (congrArg some (decide_eq_true h4))) ?_
 apply X_consP
 apply S_expr
 apply E_lm ok
 exact (by with_reducible repeat' first | assumption | exact lk_same | apply lk_else | with_unfolding_all rfl)
 ·(with_reducible repeat' first | assumption | exact get_new _ _ | apply get_put | apply get_old | refine get_nf (by assumption) ?_ | apply get_kd | with_unfolding_all rfl)
 exact tM hG rfl
 exact rfl
 apply Es_cons
 apply E_sub
 refine E_loc (by with_reducible repeat' first | assumption | exact lk_same | apply lk_else | with_unfolding_all rfl) ?_
 refine E_loc (by with_reducible repeat' first | assumption | exact lk_same | apply lk_else | with_unfolding_all rfl) ?_
 refine k_it (I_list (v := .int ((i : Int) + 1)) (j := i) cl.hw (who_at i3) (Nat.lt_trans i3 (lb rfl))) ?_
 apply Es_nil
 refine k_ca (h1) ?_
 apply X_consP
 apply S_asgC
 refine E_loc (by with_reducible repeat' first | assumption | exact lk_same | apply lk_else | with_unfolding_all rfl) ?_
 refine k_ik (ikL hli1) ?_
 refine k_co (hc) ?_
 apply X_nilP
 apply X_nilP
 apply X_nilP
 apply X_nilP
 subst hN
 refine ⟨rmN i q, T1.n, rv', ⟨_, _, _, _, _, ⟨L2, a4, a3, Nat.le_succ_of_le S.ck, Nat.le_trans a1 (m_suc S), rmS_eye S.eye (by rw [hx]; exact fun e => Nat.ne_of_lt i3 (sp_inj (b := 3) e)), fun t mt => ?_, Nat.le_trans (List.length_filter_le _ _) S.len⟩⟩, cl2, F.mono (Nat.le_succ _) a2 (fun t mt => .inl (rm_sub mt).1), lc.lin⟩
 obtain ⟨y, my, ey⟩ := S.opn t (rm_sub mt).1
 refine ⟨y, List.mem_filter.mpr ⟨my, ?_⟩, ey⟩
 rw [ey, hx, decide_eq_false fun z => (rm_sub mt).2 (sp_inj z)]; rfl
theorem act_rel (S : Sd8 T s lr sp st sd ep ss es m C q k rv) (cl : Cl8 T s lr kk ln wh li fe ns (q.map Pl.sp) fs) (F : Fe8 fs q k rv) (hk : k < 10) (lc : Lk8 loc s kk wh li fe) (hi : lk loc 1970303348 = some (nV i)) (i3 : i < 3) {a : Int} (ha : lk loc 7693410 = some (.int a)) (mx : x ∈ ss) (hx : x.num = (i : Int) + 1) (h2 : ¬ a < 2) (h3 : a = 2) : StP c (d + 16) loc T actS (PostA s lr sp st sd kk ln wh fe ns fs k) (fun _ _ => False) := by
 generalize hN : PostA s lr sp st sd kk ln wh fe ns fs k = N
 obtain ⟨l1, l2, l3, l4, l5, l6, l7⟩ := id lc
 obtain ⟨sf, rows, X, _, e, _⟩ := id S.L.X
 have hs := X.hs
 have hd := S.L.se.hd
 rw [← e] at hd
 have dx := dlk_ses mx S.L.se.nd
 rw [hx] at dx
 have hk0 := cl.hk
 obtain ⟨v1, T1, h1, hv⟩ := release_ok ok hG (d := d + 2) S.L (Nat.lt_trans (S.m30 hk) (lb rfl)) mx S.Q S.W cl.hk cl.hln
 rw [hx] at h1
 have key : ∃ (b : Bool) (rv' : Int), v1 = .bool b ∧ ((q.map Pl.sp).map nV).any (sq · (nV i)) = b ∧ rv ≤ rv' ∧ (∃ es' m', Sd8 T1 s lr sp st sd ep ss es' m' C (rmN i q) (k + 1) rv') ∧ Upd T.n (K8 s lr sd) T T1 := by
  rcases hv with ⟨rfl, hno, L1, u1⟩ | ⟨t, mt, rfl, hn, es', L1, W1, Q1, u1⟩
  ·have no : ∀ t ∈ q, t.sp ≠ i := fun t mt e => hno t mt (by rw [e, hx])
   refine ⟨false, rv, rfl, any_no fun m => ?_, Int.le_refl _, ⟨es, m, ?_⟩, u1⟩
   ·obtain ⟨t, mt, e⟩ := List.mem_map.mp m
    exact no t mt e
   ·rw [rm_no no]; exact { S.up with L := L1 }
  ·have ei : t.sp = i := sp_inj (hn.trans hx)
   refine ⟨true, rv + 1, rfl, any_yes (any_sp mt ei), Int.le_add_one (Int.le_refl _), ⟨es', m + 1, ?_⟩, u1⟩
   rw [← ei, ← S.Q.rm_eq mt]
   exact ⟨L1, Q1, W1, Nat.le_succ_of_le S.ck, m_suc S, S.eye, fun u mu => S.opn u (List.mem_filter.mp mu).1, S.len⟩
 obtain ⟨b, rv', rfl, hany, a2, ⟨es', m', S1⟩, u1⟩ := key
 have cl1 := cl.op S.L u1
 obtain ⟨T2, hc, g2, u2⟩ := lin_loop ok hG (d := d + 16) (T0 := T1) (A := T1.n) (i := i) (lq := q.map Pl.sp) (Nat.le_refl _) S1.L.pn (by rw [List.length_map]; exact Nat.lt_of_le_of_lt (Nat.le_trans S.Q.len S.Q.c10) (lb rfl)) cl1.hli (q.map Pl.sp) [] (hnew T1 (.list [])) (rm [k_dot0, 6713200] loc) rfl Upd.refl.new (get_new _ _) (lk_rmn rfl hi)
 rw [line_rm] at g2
 have cl2 := (cl1.all u2).sw g2 (Nat.ne_of_gt (lr_lt S1.L)) (Nat.ne_of_lt (lt_of_get cl1.hw)) (Nat.ne_of_lt (lt_of_get cl1.hfe)) S1.L.pn
 have hli1 := cl1.hli
 apply S_if
 apply T_cmpP
 apply E_sub
 refine E_loc (by with_reducible repeat' first | assumption | exact lk_same | apply lk_else | with_unfolding_all rfl) ?_
 refine E_loc (by with_reducible repeat' first | assumption | exact lk_same | apply lk_else | with_unfolding_all rfl) ?_
 refine k_it (I_list (v := .int ((i : Int) + 1)) (j := i) cl.hw (who_at i3) (Nat.lt_trans i3 (lb rfl))) ?_
 apply E_la ok
 exact (by with_reducible repeat' first | assumption | exact lk_same | apply lk_else | with_unfolding_all rfl)
 ·(with_reducible repeat' first | assumption | exact get_new _ _ | apply get_put | apply get_old | refine get_nf (by assumption) ?_ | apply get_kd | with_unfolding_all rfl)
 exact tA hG rfl
 exact rfl
 refine k_cm true (cmt (C_inD hd kOk_ses) (by rw [dx]; rfl)) ?_
 apply X_consP
 apply S_if
 apply T_cmpP
 refine E_loc (by with_reducible repeat' first | assumption | exact lk_same | apply lk_else | with_unfolding_all rfl) ?_
 apply E_int
 refine k_cm false (cmt C_lt (decide_eq_false h2)) ?_
 apply X_consP
 apply S_if
 apply T_cmpP
 refine E_loc (by with_reducible repeat' first | assumption | exact lk_same | apply lk_else | with_unfolding_all rfl) ?_
 apply E_int
 refine k_cm true (C_eq (congrArg some (decide_eq_true h3))) ?_
 apply X_consP
 apply S_if
 apply T_cmpP
 apply E_lm ok
 exact (by with_reducible repeat' first | assumption | exact lk_same | apply lk_else | with_unfolding_all rfl)
 ·(with_reducible repeat' first | assumption | exact get_new _ _ | apply get_put | apply get_old | refine get_nf (by assumption) ?_ | apply get_kd | with_unfolding_all rfl)
 exact tM hG rfl
 exact rfl
 apply Es_cons
 apply E_sub
 refine E_loc (by with_reducible repeat' first | assumption | exact lk_same | apply lk_else | with_unfolding_all rfl) ?_
 refine E_loc (by with_reducible repeat' first | assumption | exact lk_same | apply lk_else | with_unfolding_all rfl) ?_
 refine k_it (I_list (v := .int ((i : Int) + 1)) (j := i) cl.hw (who_at i3) (Nat.lt_trans i3 (lb rfl))) ?_
 apply Es_nil
 refine k_ca (h1) ?_
 apply E_cmp
 refine E_loc (by with_reducible repeat' first | assumption | exact lk_same | apply lk_else | with_unfolding_all rfl) ?_
 refine E_loc (by with_reducible repeat' first | assumption | exact lk_same | apply lk_else | with_unfolding_all rfl) ?_
 refine k_cm _ (cmt (C_in (.inr hli1) kin_all) hany) ?_
 refine k_cm false (C_ne (t := true) (congrArg some (decide_eq_true rfl))) ?_
 apply X_nilP
 apply X_consP
 apply S_asgC
 refine E_loc (by with_reducible repeat' first | assumption | exact lk_same | apply lk_else | with_unfolding_all rfl) ?_
 refine k_ik (ikL hli1) ?_
 refine k_co (hc) ?_
 apply X_nilP
 apply X_nilP
 apply X_nilP
 subst hN
 exact ⟨rmN i q, T1.n, rv', ⟨_, _, _, _, _, S1.new u2⟩, cl2, F.mono (Nat.le_succ _) a2 (fun t mt => .inl (rm_sub mt).1), lc.lin⟩
theorem act_ok (S : Sd8 T s lr sp st sd ep ss es m C q k rv) (cl : Cl8 T s lr kk ln wh li fe ns (q.map Pl.sp) fs) (F : Fe8 fs q k rv) (hk : k < 10) (lc : Lk8 loc s kk wh li fe) (hi : lk loc 1970303348 = some (nV i)) (i3 : i < 3) {a v : Int} (ha : lk loc 7693410 = some (.int a)) (hv : lk loc 440073544311 = some (.int v)) : StP c (d + 16) loc T actS (PostA s lr sp st sd kk ln wh fe ns fs k) (fun _ _ => False) := by
 by_cases h : (i : Int) + 1 ∈ ss.map Sn.num
 ·obtain ⟨x, mx, hx⟩ := List.mem_map.mp h
  by_cases h2 : a < 2
  ·exact act_acq ok hG S cl F hk lc hi i3 ha mx hx h2
  ·by_cases h3 : a = 2
   ·exact act_rel ok hG S cl F hk lc hi i3 ha mx hx h2 h3
   ·by_cases h4 : Int.fmod (Int.fdiv v 12) 3 = 0
    ·exact act_end ok hG S cl F hk lc hi i3 ha hv mx hx h2 h3 h4
    ·exact act_nil ok hG S cl F lc hi i3 ha hv mx hx h2 h3 h4
 ·exact act_off ok hG S cl F lc hi i3 h
end
theorem StP.imp {c : Cx} {d : Nat} {loc : Loc} {T : Hp} {b : PS} {N N' : Loc → Hp → Prop} {R R' : AV → Hp → Prop} (h : StP c d loc T b N R) (k : ∀ l T, N l T → N' l T) (k2 : ∀ v T, R v T → R' v T) : StP c d loc T b N' R' := by
 rcases h with ⟨l, T', h, n⟩ | ⟨v, T', h, n⟩
 ·exact .inl ⟨l, T', h, k l T' n⟩
 ·exact .inr ⟨v, T', h, k2 v T' n⟩
theorem Lk8.rm {loc : Loc} {s kk wh li fe : Nat} (h : Lk8 loc s kk wh li fe) : Lk8 (Mine.rm [k_dot0, 6713200] loc) s kk wh li fe := ⟨lk_rmn rfl h.h1, lk_rmn rfl h.h2, lk_rmn rfl h.h3, lk_rmn rfl h.h4, lk_rmn rfl h.h5, lk_rmn rfl h.h6, lk_rmn rfl h.h7⟩
noncomputable def hoP (ss : List Sn) (q : List Pl) (o : Nat) : Bool := decide ((o : Int) + 1 ∈ ss.map Sn.num) && hold q ((o : Int) + 1)
noncomputable abbrev hoI : PEs := .cons (.and (.cons (.cmp .isin (.sub (.loc 7367032) (.loc 6713200)) (.attr (.loc 440023414132) 8390048233337153140)) (.cons (.meth (.loc 1818521709) 499917877353 (.cons (.sub (.loc 7367032) (.loc 6713200)) .nil)) .nil))) .nil
theorem ho_eq {ss : List Sn} {q : List Pl} {C : Nat} {rv : Int} (Q : Q8 q C rv) (op : ∀ t ∈ q, ∃ y ∈ ss, y.num = (t.sp : Int) + 1) : (List.range 3).filter (hoP ss q) = (q.map Pl.sp).take 1 := by
 cases q with
 | nil =>
  refine List.filter_eq_nil_iff.mpr fun o _ h => ?_
  unfold hoP at h
  rw [show hold [] ((o : Int) + 1) = false from rfl, Bool.and_false] at h; cases h
 | cons t l =>
  have t3 := Q.sp3 t (.head _)
  obtain ⟨y, my, ey⟩ := op t (.head _)
  have yes : hoP ss (t :: l) t.sp = true := by
   unfold hoP
   rw [hold_eq, decide_eq_true rfl, Bool.and_true]
   exact decide_eq_true (ey ▸ List.mem_map_of_mem my)
  have no : ∀ o, o ≠ t.sp → hoP ss (t :: l) o = false := fun o h => by
   unfold hoP
   rw [hold_eq, decide_eq_false (show ¬ (t.sp : Int) = (o : Int) from fun e => h (Int.ofNat_inj.mp e).symm), Bool.and_false]
  show (List.filter _ [0, 1, 2]) = [t.sp]
  generalize t.sp = n at *
  match n, t3 with
  | 0, _ => rw [List.filter_cons_of_pos yes, List.filter_cons_of_neg (by rw [no 1 (by decide)]; exact Bool.false_ne_true), List.filter_cons_of_neg (by rw [no 2 (by decide)]; exact Bool.false_ne_true)]; rfl
  | 1, _ => rw [List.filter_cons_of_neg (by rw [no 0 (by decide)]; exact Bool.false_ne_true), List.filter_cons_of_pos yes, List.filter_cons_of_neg (by rw [no 2 (by decide)]; exact Bool.false_ne_true)]; rfl
  | 2, _ => rw [List.filter_cons_of_neg (by rw [no 0 (by decide)]; exact Bool.false_ne_true), List.filter_cons_of_neg (by rw [no 1 (by decide)]; exact Bool.false_ne_true), List.filter_cons_of_pos yes]; rfl
section
variable {c : Cx} (ok : Ok c) (hG : c.G = G) {d s lr sp st sd ep m C kk ln wh li fe k i : Nat} {T : Hp} {ss : List Sn} {es : Es} {q : List Pl} {rv : Int} {ns : List Int} {fs : List Int} {loc : Loc} {x : Sn} {lq : List Nat}
theorem Cl8.oth {A : Nat} {l o : List AV} (cl : Cl8 T s lr kk ln wh li fe ns lq fs) (g : T.get A = some (.list l)) (n0 : 1 ≤ A) (n1 : wh ≠ A) (n2 : li ≠ A) (n3 : fe ≠ A) : Cl8 (hput T A (.list o)) s lr kk ln wh li fe ns lq fs := { cl with hk := get_kd g cl.hk rfl, hln := get_kd g cl.hln rfl, hw := get_nf n1 cl.hw, hli := get_nf n2 cl.hli, hfe := get_nf n3 cl.hfe, scr := get_nf (Nat.ne_of_lt n0) cl.scr }
include ok hG
theorem ho_loop {src A : Nat} (n0 : 1 ≤ A) (na : A ≠ lr) (n1 : wh ≠ A) (n2 : li ≠ A) (n3 : fe ≠ A) (n : Nat) : ∀ (j : Nat) (T : Hp) (loc : Loc), j + n = 3 → Sd8 T s lr sp st sd ep ss es m C q k rv → Cl8 T s lr kk ln wh li fe ns lq fs → T.get A = some (.list (((List.range j).filter (hoP ss q)).map nV)) → Lk8 loc s kk wh li fe →
  CoP c (d + 10) loc T (.list (.loc 6713200)) A [6713200] src (.range 0 3) j hoI fun T' => T'.get A = some (.list (((List.range 3).filter (hoP ss q)).map nV)) ∧ Sd8 T' s lr sp st sd ep ss es m C q k rv ∧ Cl8 T' s lr kk ln wh li fe ns lq fs := by
 induction n with
 | zero =>
  intro j T loc hj S cl ha lc
  cases hj
  exact Co_endP (.inr ⟨Nat.le_refl _, rfl⟩) ⟨ha, S, cl⟩
 | succ n ih =>
  intro j T loc hj S cl ha lc
  have j3 : j < 3 := hj ▸ Nat.lt_add_of_pos_right (Nat.succ_pos n)
  have lc1 : Lk8 (pt loc 6713200 (nV j)) s kk wh li fe := lc.put rfl
  obtain ⟨l1, l2, l3, l4, l5, l6, l7⟩ := id lc1
  have k1 : lk (pt loc 6713200 (nV j)) 6713200 = some (nV j) := lk_same
  obtain ⟨sf, rows, X, _, e, _⟩ := id S.L.X
  have hs := X.hs
  have hd := S.L.se.hd
  rw [← e] at hd
  have hk0 := cl.hk
  have tn : Turn T src j (some (nV j)) (.range 0 3) := .inl ⟨j3, by rw [Int.zero_add]⟩
  have fl : (List.range (j + 1)).filter (hoP ss q) = (List.range j).filter (hoP ss q) ++ (if hoP ss q j = true then [j] else []) := by
   rw [List.range_succ, List.filter_append]
   congr 1
   cases h : hoP ss q j
   ·rw [List.filter_cons_of_neg (by rw [h]; exact Bool.false_ne_true)]; rfl
   ·rw [List.filter_cons_of_pos h]; rfl
  have ih := fun T => ih (j + 1) T (pt loc 6713200 (nV j)) ((Nat.succ_add j n).trans hj)
  by_cases h : (j : Int) + 1 ∈ ss.map Sn.num
  ·obtain ⟨x, mx, hx⟩ := List.mem_map.mp h
   have dx := dlk_ses mx S.L.se.nd
   rw [hx] at dx
   obtain ⟨_, T1, h1, rfl, L1, u1⟩ := holds_ok ok hG (d := d) S.L mx S.Q S.W cl.hk cl.hln
   rw [hx] at h1
   have cl1 := cl.op S.L u1
   have ha1 : T1.get A = some (.list (((List.range j).filter (hoP ss q)).map nV)) := u1.get ⟨ne_kd X.hs ha rfl, na, ne_kd S.L.se.hd ha rfl, rfl⟩ ha
   have hP : hoP ss q j = hold q ((j : Int) + 1) := by unfold hoP; rw [decide_eq_true h, Bool.true_and]
   cases hb : hold q ((j : Int) + 1)
   ·rw [hb] at h1 hP
    rw [hP, if_neg Bool.false_ne_true, List.append_nil] at fl
    refine Co_skipP tn bind_one ?_
    apply Te_stopP
    apply T_andP
    apply Ts_goP
    apply T_cmpP
    apply E_sub
    refine E_loc l3 ?_
    refine E_loc k1 ?_
    refine k_it (I_list (v := .int ((j : Int) + 1)) (j := j) cl.hw (who_at j3) (Nat.lt_trans j3 (lb rfl))) ?_
    apply E_la ok
    exact l2
    ·(with_reducible repeat' first | assumption | exact get_new _ _ | apply get_put | apply get_old | refine get_nf (by assumption) ?_ | apply get_kd | with_unfolding_all rfl)
    exact tA hG rfl
    exact rfl
    refine k_cm true (cmt (C_inD hd kOk_ses) (by rw [dx]; rfl)) ?_
    apply k_ye
    apply Ts_stopP
    refine T_plainP rfl ?_
    apply E_lm ok
    exact l4
    ·(with_reducible repeat' first | assumption | exact get_new _ _ | apply get_put | apply get_old | refine get_nf (by assumption) ?_ | apply get_kd | with_unfolding_all rfl)
    exact tM hG rfl
    exact rfl
    apply Es_cons
    apply E_sub
    refine E_loc l3 ?_
    refine E_loc k1 ?_
    refine k_it (I_list (v := .int ((j : Int) + 1)) (j := j) cl.hw (who_at j3) (Nat.lt_trans j3 (lb rfl))) ?_
    apply Es_nil
    refine k_ca (h1) ?_
    apply k_bl
    apply k_ye
    apply k_ye
    apply k_ye
    exact ih T1 { S with L := L1 } cl1 (by rw [fl]; exact ha1) lc1
   ·rw [hb] at h1 hP
    rw [hP, if_pos rfl] at fl
    refine Co_listP tn bind_one ?_
    apply Te_goP
    apply T_andP
    apply Ts_goP
    apply T_cmpP
    apply E_sub
    refine E_loc l3 ?_
    refine E_loc k1 ?_
    refine k_it (I_list (v := .int ((j : Int) + 1)) (j := j) cl.hw (who_at j3) (Nat.lt_trans j3 (lb rfl))) ?_
    apply E_la ok
    exact l2
    ·(with_reducible repeat' first | assumption | exact get_new _ _ | apply get_put | apply get_old | refine get_nf (by assumption) ?_ | apply get_kd | with_unfolding_all rfl)
    exact tA hG rfl
    exact rfl
    refine k_cm true (cmt (C_inD hd kOk_ses) (by rw [dx]; rfl)) ?_
    apply k_ye
    apply Ts_goP
    refine T_plainP rfl ?_
    apply E_lm ok
    exact l4
    ·(with_reducible repeat' first | assumption | exact get_new _ _ | apply get_put | apply get_old | refine get_nf (by assumption) ?_ | apply get_kd | with_unfolding_all rfl)
    exact tM hG rfl
    exact rfl
    apply Es_cons
    apply E_sub
    refine E_loc l3 ?_
    refine E_loc k1 ?_
    refine k_it (I_list (v := .int ((j : Int) + 1)) (j := j) cl.hw (who_at j3) (Nat.lt_trans j3 (lb rfl))) ?_
    apply Es_nil
    refine k_ca (h1) ?_
    apply k_bl
    apply k_ye
    apply Ts_nilP
    apply k_ye
    apply Te_nilP
    apply k_ye
    refine E_loc k1 ?_
    apply k_ap
    exact ha1
    rw [List.length_map]; exact lt4 (Nat.le_trans (List.length_filter_le _ _) (by rw [List.length_range]; exact Nat.le_of_lt j3)) rfl
    first | assumption | exact Nat.le_add_left 1 _ | exact lb rfl
    exact ih _ { S with L := L1.lst ha1 na } (cl1.oth ha1 n0 n1 n2 n3) (by rw [fl, List.map_append]; exact get_put ha1) lc1
  ·have hP : hoP ss q j = false := by unfold hoP; rw [decide_eq_false h, Bool.false_and]
   rw [hP, if_neg Bool.false_ne_true, List.append_nil] at fl
   refine Co_skipP tn bind_one ?_
   apply Te_stopP
   apply T_andP
   apply Ts_stopP
   apply T_cmpP
   apply E_sub
   refine E_loc l3 ?_
   refine E_loc k1 ?_
   refine k_it (I_list (v := .int ((j : Int) + 1)) (j := j) cl.hw (who_at j3) (Nat.lt_trans j3 (lb rfl))) ?_
   apply E_la ok
   exact l2
   ·(with_reducible repeat' first | assumption | exact get_new _ _ | apply get_put | apply get_old | refine get_nf (by assumption) ?_ | apply get_kd | with_unfolding_all rfl)
   exact tA hG rfl
   exact rfl
   refine k_cm false (cmt (C_inD hd kOk_ses) (by rw [dlk_sno h]; rfl)) ?_
   apply k_ye
   apply k_ye
   apply k_ye
   exact ih T S cl (by rw [fl]; exact ha) lc1
end
noncomputable abbrev lawB : PSs := (.cons (.asg 440073544311 (.bin .add (.sub (.loc 129129977701492) (.bin .add (.int 1) (.bin .mod (.loc 108) (.int 10)))) (.bin .mul (.loc 108) (.int 7)))) (.cons (.asg 1970303348 (.bin .mod (.loc 440073544311) (.int 3))) (.cons (.asg 7693410 (.bin .mod (.bin .fdiv (.loc 440073544311) (.int 3)) (.int 4))) (.cons (.ite (.cmp .isin (.sub (.loc 7367032) (.loc 1970303348)) (.attr (.loc 440023414132) 8390048233337153140)) (.cons (.ite (.cmp .lt (.loc 7693410) (.int 2)) (.cons (.asg 1701668457 (.meth (.loc 1818521709) 28837348715422818 (.cons (.sub (.loc 7367032) (.loc 1970303348)) .nil))) (.cons (.ite (.cmp .notin (.loc 1970303348) (.loc 1718577773)) (.cons (.expr (.meth (.loc 1718577773) 111529134485858 (.cons (.loc 1970303348) .nil))) .nil) .nil) (.cons (.ite (.cmp .ne (.loc 1701668457) (.cmp .eq (.sub (.loc 1718577773) (.int 0)) (.loc 1970303348))) (.cons (.ret (.bool false)) .nil) .nil) .nil))) (.cons (.ite (.cmp .eq (.loc 7693410) (.int 2)) (.cons (.ite (.cmp .ne (.meth (.loc 1818521709) 28838413598549619 (.cons (.sub (.loc 7367032) (.loc 1970303348)) .nil)) (.cmp .isin (.loc 1970303348) (.loc 1718577773))) (.cons (.ret (.bool false)) .nil) .nil) (.cons (.asgC 1718577773 (.loc 6713200) [6713200] (.loc 1718577773) (.cons (.cmp .ne (.loc 6713200) (.loc 1970303348)) .nil)) .nil)) (.cons (.ite (.cmp .eq (.bin .mod (.bin .fdiv (.loc 440073544311) (.int 12)) (.int 3)) (.int 0)) (.cons (.expr (.meth (.loc 440023414132) 440040189284 (.cons (.sub (.loc 7367032) (.loc 1970303348)) .nil))) (.cons (.asgC 1718577773 (.loc 6713200) [6713200] (.loc 1718577773) (.cons (.cmp .ne (.loc 6713200) (.loc 1970303348)) .nil)) .nil)) .nil) .nil)) .nil)) .nil) .nil) (.cons (.asgC 32777980923965545 (.loc 6713200) [6713200] (.call (.glb 439838794355) (.cons (.int 3) .nil)) (.cons (.and (.cons (.cmp .isin (.sub (.loc 7367032) (.loc 6713200)) (.attr (.loc 440023414132) 8390048233337153140)) (.cons (.meth (.loc 1818521709) 499917877353 (.cons (.sub (.loc 7367032) (.loc 6713200)) .nil)) .nil))) .nil)) (.cons (.ite (.cmp .ne (.loc 32777980923965545) (.slice (.loc 1718577773) true (.int 1))) (.cons (.ret (.bool false)) .nil) .nil) (.cons (.asg 439771686503 (.meth (.loc 1818521709) 439771686503 (.cons (.loc 6716006) .nil))) (.cons (.ite (.and (.cons (.cmp .isnt (.loc 439771686503) .none) (.cons (.cmp .notin (.loc 439771686503) (.loc 127983120508519)) .nil))) (.cons (.expr (.meth (.loc 127983120508519) 111529134485858 (.cons (.loc 439771686503) .nil))) .nil) .nil) .nil))))))))
theorem fmod3 (v : Int) : ∃ i : Nat, i < 3 ∧ Int.fmod v 3 = (i : Int) := by
 have h1 := Int.fmod_nonneg_of_pos v (show (0 : Int) < 3 by decide)
 have h2 := Int.fmod_lt_of_pos v (show (0 : Int) < 3 by decide)
 exact ⟨(Int.fmod v 3).toNat, by omega, by omega⟩
theorem fmod10 {k : Nat} (h : k < 10) : Int.fmod (k : Int) 10 = (k : Int) := by
 rw [Int.fmod_eq_emod_of_nonneg _ (by decide)]; omega
theorem kinI {fs : List Int} {v : Int} : (fs.map AV.int).all (kin · (.int v)) = true := List.all_eq_true.mpr fun x m => by
 obtain ⟨n, _, rfl⟩ := List.mem_map.mp m
 rfl
theorem anyI_yes {fs : List Int} {f : Int} (h : f ∈ fs) : (fs.map AV.int).any (sq · (.int f)) = true := List.any_eq_true.mpr ⟨.int f, List.mem_map_of_mem h, decide_eq_true rfl⟩
theorem anyI_no {fs : List Int} {f : Int} (h : f ∉ fs) : (fs.map AV.int).any (sq · (.int f)) = false := by
 rw [Bool.eq_false_iff]
 intro e
 obtain ⟨x, m, k⟩ := List.any_eq_true.mp e
 obtain ⟨n, mn, rfl⟩ := List.mem_map.mp m
 have : n = f := of_decide_eq_true k
 exact h (this ▸ mn)
theorem Fe8.add {fs : List Int} {t : Pl} {l : List Pl} {C k : Nat} {rv : Int} (F : Fe8 fs (t :: l) (k + 1) rv) (hl : fs.length ≤ k) (Q : Q8 (t :: l) C rv) (no : t.ma ∉ fs) : Fe8 (fs ++ [t.ma]) (t :: l) (k + 1) rv := by
 refine ⟨List.pairwise_append.mpr ⟨F.1, List.pairwise_cons.mpr ⟨fun _ h => (by cases h), .nil⟩, fun a ma b mb => ?_⟩, fun f m => ?_, by rw [List.length_append]; exact Nat.succ_le_succ hl⟩
 ·cases List.mem_singleton.mp mb
  exact Int.lt_iff_le_and_ne.mpr ⟨(F.2.1 a ma).2 t (.head _), fun e => no (e ▸ ma)⟩
 ·rcases List.mem_append.mp m with m | m
  ·exact F.2.1 f m
  ·cases List.mem_singleton.mp m
   refine ⟨Q.mr t (.head _), fun u mu => ?_⟩
   cases mu with
   | head => exact Int.le_refl _
   | tail _ mu => exact Int.le_of_lt ((List.pairwise_cons.mp Q.inc).1 u mu).2
section
variable {c : Cx} (ok : Ok c) (hG : c.G = G) {d s lr sp st sd ep m C kk ln wh li fe k i : Nat} {T : Hp} {ss : List Sn} {es : Es} {q : List Pl} {rv : Int} {ns : List Int} {fs : List Int} {loc : Loc} {x : Sn} {lq : List Nat}
noncomputable abbrev PostB (s lr sp st sd kk ln wh fe : Nat) (ns : List Int) (k : Nat) : Loc → Hp → Prop := fun l T' => ∃ q' li' rv' fs', St8 T' s lr sp st sd q' k rv' ∧ Cl8 T' s lr kk ln wh li' fe ns (q'.map Pl.sp) fs' ∧ Fe8 fs' q' k rv' ∧ Lk8 l s kk wh li' fe
include ok hG
theorem body8 {v0 : Int} (S0 : St8 T s lr sp st sd q k rv) (cl : Cl8 T s lr kk ln wh li fe ns (q.map Pl.sp) fs) (F : Fe8 fs q k rv) (hk : k < 10) (lc0 : Lk8 loc s kk wh li fe) (hv : ns[k + 1]? = some v0) : ExP c (d + 16) (pt loc 108 (nV k)) T lawB (PostB s lr sp st sd kk ln wh fe ns (k + 1)) (fun _ _ => False) := by
 generalize hN : PostB s lr sp st sd kk ln wh fe ns (k + 1) = N
 obtain ⟨ep, ss, es, m, C, S⟩ := S0
 have lc : Lk8 (pt loc 108 (nV k)) s kk wh li fe := lc0.put rfl
 obtain ⟨l1, l2, l3, l4, l5, l6, l7⟩ := id lc
 obtain ⟨i, i3, hi⟩ := fmod3 (v0 + (k : Int) * 7)
 have scr := cl.scr
 have lc3 : Lk8 (pt (pt (pt (pt loc 108 (nV k)) 440073544311 (.int (v0 + (k : Int) * 7))) 1970303348 (nV i)) 7693410 (.int (Int.fmod (Int.fdiv (v0 + (k : Int) * 7) 3) 4))) s kk wh li fe := ((lc.put rfl).put rfl).put rfl
 apply X_consP
 apply S_asg
 apply E_bin
 apply E_sub
 refine E_loc (by with_reducible repeat' first | assumption | exact lk_same | apply lk_else | with_unfolding_all rfl) ?_
 apply E_bin
 apply E_int
 apply E_bin
 refine E_loc (by with_reducible repeat' first | assumption | exact lk_same | apply lk_else | with_unfolding_all rfl) ?_
 apply E_int
 refine k_bi (modI (by decide) (fmod10 hk)) ?_
 refine k_bi (addI (z := ((k + 1 : Nat) : Int)) (by rw [Int.add_comm]; rfl)) ?_
 refine k_it (I_list (j := k + 1) (v := .int v0) scr (by rw [List.getElem?_map, hv]; rfl) (Nat.lt_trans (Nat.succ_lt_succ hk) (lb rfl))) ?_
 apply E_bin
 refine E_loc (by with_reducible repeat' first | assumption | exact lk_same | apply lk_else | with_unfolding_all rfl) ?_
 apply E_int
 refine k_bi (B_mulI (Int.lt_of_lt_of_le (by decide) (Int.natCast_nonneg k)) (Int.lt_trans (Int.ofNat_lt.mpr hk) (by decide))) ?_
 refine k_bi (B_addI) ?_
 apply X_consP
 apply S_asg
 apply E_bin
 refine E_loc (by with_reducible repeat' first | assumption | exact lk_same | apply lk_else | with_unfolding_all rfl) ?_
 apply E_int
 refine k_bi (modI (by decide) hi) ?_
 apply X_consP
 apply S_asg
 apply E_bin
 apply E_bin
 refine E_loc (by with_reducible repeat' first | assumption | exact lk_same | apply lk_else | with_unfolding_all rfl) ?_
 apply E_int
 refine k_bi (B_divI (by decide) (by decide)) ?_
 apply E_int
 refine k_bi (B_modI (by decide)) ?_
 apply X_consP
 refine StP.imp (act_ok ok hG (d := d) S cl F hk lc3 (lk_else rfl lk_same) i3 lk_same (lk_else rfl (lk_else rfl lk_same))) (fun lx Tx hx9 => ?_) (fun _ _ f => f.elim)
 obtain ⟨q1, li1, rv1, ⟨ep1, ss1, es1, m1, C1, S1⟩, cl1, F1, lc1⟩ := hx9
 obtain ⟨j1, j2, j3, j4, j5, j6, j7⟩ := id lc1
 have ua : Upd Tx.n All Tx (hnew (hnew Tx (.range 0 3)) (.list [])) := Upd.refl.new.new
 obtain ⟨T2, hco, g2, S2, cl2⟩ := ho_loop ok hG (d := d + 6) (src := Tx.n) (A := (hnew Tx (.range 0 3)).n) (Nat.le_add_left 1 _) (Nat.ne_of_gt (Nat.lt_succ_of_lt (lr_lt S1.L))) (Nat.ne_of_lt (Nat.lt_succ_of_lt (lt_of_get cl1.hw))) (Nat.ne_of_lt (Nat.lt_succ_of_lt (lt_of_get cl1.hli))) (Nat.ne_of_lt (Nat.lt_succ_of_lt (lt_of_get cl1.hfe))) 3 0 (hnew (hnew Tx (.range 0 3)) (.list [])) (rm [k_dot0, 6713200] lx) rfl (S1.new ua) (cl1.all ua) (get_new _ _) lc1.rm
 rw [ho_eq S2.Q S2.opn] at g2
 have hli2 := cl2.hli
 apply X_consP
 apply S_asgC
 refine E_callB ok (tG hG rfl) (by first | exact .inl ⟨_, rfl⟩ | exact .inr ⟨_, rfl⟩) ?_
 apply Es_cons
 apply E_int
 apply Es_nil
 refine k_bc (B_range) ?_
 refine k_ik (show IkOf _ _ (.range 0 3) from ⟨3, get_new _ _, by decide, by decide, by decide, by decide, rfl⟩) ?_
 refine k_co (hco) ?_
 apply X_consP
 apply S_if
 apply T_cmpP
 refine E_loc (by with_reducible repeat' first | assumption | exact lk_same | apply lk_else | with_unfolding_all rfl) ?_
 apply E_slice
 refine E_loc (by with_reducible repeat' first | assumption | exact lk_same | apply lk_else | with_unfolding_all rfl) ?_
 apply E_int
 refine k_sl (S_list hli2 (by rw [List.length_map, List.length_map]; exact lt4 (Nat.le_trans S2.Q.len S2.Q.c10) rfl) (cut_up 1 _)) ?_
 refine k_cm false (C_neR (f := 0) (lb rfl) (.inr ⟨get_old g2, get_new _ _⟩) (by rw [List.map_take]; exact EqL_same)) ?_
 have S3 := S2.new (T' := hnew T2 (.list (((q1.map Pl.sp).map nV).take 1))) Upd.refl.new
 have cl3 := cl2.all (T' := hnew T2 (.list (((q1.map Pl.sp).map nV).take 1))) Upd.refl.new
 obtain ⟨ye, mye, eye⟩ := S3.eye
 obtain ⟨v4, T4, h4, hv4, L4, u4⟩ := fence_ok ok hG (d := d + 7) S3.L mye S3.Q S3.W cl3.hk cl3.hln
 rw [eye] at h4
 have cl4 := cl3.op S3.L u4
 have S4 := ({ S3 with L := L4 } : Sd8 T4 s lr sp st sd ep1 ss1 es1 m1 C1 q1 (k + 1) rv1)
 have hk3 := cl3.hk
 have hfe4 := cl4.hfe
 apply X_nilP
 apply X_consP
 apply S_asg
 apply E_lm ok
 exact (by with_reducible repeat' first | assumption | exact lk_same | apply lk_else | with_unfolding_all rfl)
 ·(with_reducible repeat' first | assumption | exact get_new _ _ | apply get_put | apply get_old | refine get_nf (by assumption) ?_ | apply get_kd | with_unfolding_all rfl)
 exact tM hG rfl
 exact rfl
 refine Es_loc (by with_reducible repeat' first | assumption | exact lk_same | apply lk_else | with_unfolding_all rfl) ?_
 apply Es_nil
 refine k_ca (h4) ?_
 have lc9 : Lk8 (pt (pt lx 32777980923965545 (.ref (hnew Tx (.range 0 3)).n)) 439771686503 v4) s kk wh li1 fe := (lc1.put rfl).put rfl
 have p6 := lc9.h6
 have pf : lk (pt (pt lx 32777980923965545 (.ref (hnew Tx (.range 0 3)).n)) 439771686503 v4) 439771686503 = some v4 := lk_same
 rcases hv4 with ⟨rfl, rfl⟩ | ⟨t, l, rfl, rfl⟩
 ·apply X_consP
  apply S_if
  apply T_andP
  apply Ts_stopP
  apply T_cmpP
  refine E_loc (by with_reducible repeat' first | assumption | exact lk_same | apply lk_else | with_unfolding_all rfl) ?_
  apply E_none
  refine k_cm false (by first | exact C_isnt0 | exact C_isnt1 rfl | exact C_isntT) ?_
  apply k_ye
  apply X_nilP
  apply X_nilP
  subst hN
  exact ⟨_, _, _, _, ⟨_, _, _, _, _, S4⟩, cl4, F1, lc9⟩
 ·by_cases hm : t.ma ∈ fs
  ·apply X_consP
   apply S_if
   apply T_andP
   apply Ts_goP
   apply T_cmpP
   refine E_loc (by with_reducible repeat' first | assumption | exact lk_same | apply lk_else | with_unfolding_all rfl) ?_
   apply E_none
   refine k_cm true (by first | exact C_isnt0 | exact C_isnt1 rfl | exact C_isntT) ?_
   apply k_ye
   apply Ts_stopP
   apply T_cmpP
   refine E_loc (by with_reducible repeat' first | assumption | exact lk_same | apply lk_else | with_unfolding_all rfl) ?_
   refine E_loc (by with_reducible repeat' first | assumption | exact lk_same | apply lk_else | with_unfolding_all rfl) ?_
   refine k_cm false (cmt (C_nin (.inr hfe4) kinI) (by rw [anyI_yes hm]; rfl)) ?_
   apply k_ye
   apply X_nilP
   apply X_nilP
   subst hN
   exact ⟨_, _, _, _, ⟨_, _, _, _, _, S4⟩, cl4, F1, lc9⟩
  ·have cl5 := cl4.fen (fs ++ [t.ma])
   have L5 := L4.lst (o := (fs ++ [t.ma]).map AV.int) hfe4 cl4.nf
   have em : fs.map AV.int ++ [.int t.ma] = (fs ++ [t.ma]).map AV.int := by rw [List.map_append]; rfl
   apply X_consP
   apply S_if
   apply T_andP
   apply Ts_goP
   apply T_cmpP
   refine E_loc (by with_reducible repeat' first | assumption | exact lk_same | apply lk_else | with_unfolding_all rfl) ?_
   apply E_none
   refine k_cm true (by first | exact C_isnt0 | exact C_isnt1 rfl | exact C_isntT) ?_
   apply k_ye
   apply Ts_goP
   apply T_cmpP
   refine E_loc (by with_reducible repeat' first | assumption | exact lk_same | apply lk_else | with_unfolding_all rfl) ?_
   refine E_loc (by with_reducible repeat' first | assumption | exact lk_same | apply lk_else | with_unfolding_all rfl) ?_
   refine k_cm true (cmt (C_nin (.inr hfe4) kinI) (by rw [anyI_no hm]; rfl)) ?_
   apply k_ye
   apply Ts_nilP
   apply X_consP
   apply S_expr
   apply E_methB
   refine E_loc (by with_reducible repeat' first | assumption | exact lk_same | apply lk_else | with_unfolding_all rfl) ?_
   refine k_bg (G_append hfe4) ?_
   refine Es_loc (by with_reducible repeat' first | assumption | exact lk_same | apply lk_else | with_unfolding_all rfl) ?_
   apply Es_nil
   refine k_bm (M_append hfe4 (by rw [List.length_map]; exact lt4 (Nat.le_trans F.2.2 (Nat.le_of_lt hk)) rfl) cl4.pf) ?_
   rw [em]
   apply X_nilP
   apply X_nilP
   subst hN
   exact ⟨_, _, _, _, ⟨_, _, _, _, _, { S4 with L := L5 }⟩, cl5, F1.add F.2.2 S4.Q hm, lc9⟩
end
theorem ExP.imp {c : Cx} {d : Nat} {loc : Loc} {T : Hp} {b : PSs} {N N' : Loc → Hp → Prop} {R R' : AV → Hp → Prop} (h : ExP c d loc T b N R) (k : ∀ l T, N l T → N' l T) (k2 : ∀ v T, R v T → R' v T) : ExP c d loc T b N' R' := by
 rcases h with ⟨l, T', h, n⟩ | ⟨v, T', h, n⟩
 ·exact .inl ⟨l, T', h, k l T' n⟩
 ·exact .inr ⟨v, T', h, k2 v T' n⟩
structure O8 (T : Hp) (s lr sp st sd : Nat) (n : Int) (ep : Nat) (ss : List Sn) : Prop where
 X : ∃ sf, StoreAt T s lr sp st sf [] es00 ∧ sf.ses = sd ∧ sf.cnt = n ∧ sf.rev = 0 ∧ sf.wat ≠ sd ∧ sf.lea ≠ sd
 se : SesAt T sd ep ss
 pd : 1 ≤ sd
 pn : 1 ≤ T.n
section
variable {c : Cx} (ok : Ok c) (hG : c.G = G) {d s lr sp st sd ep kk ln wh li fe k : Nat} {T : Hp} {ss : List Sn} {q : List Pl} {rv n : Int} {ns : List Int} {fs : List Int} {loc : Loc} {u : List Nat}
theorem O8.new {T' : Hp} (O : O8 T s lr sp st sd n ep ss) (v : Upd T.n All T T') : O8 T' s lr sp st sd n ep ss := ⟨let ⟨sf, X, h⟩ := O.X; ⟨sf, X.new v, h⟩, O.se.new v, O.pd, Nat.le_trans O.pn v.1⟩
theorem O8.lst {r : Nat} {l o : List AV} (O : O8 T s lr sp st sd n ep ss) (g : T.get r = some (.list l)) (ne : r ≠ lr) : O8 (hput T r (.list o)) s lr sp st sd n ep ss := ⟨let ⟨sf, X, h⟩ := O.X; ⟨sf, X.wl g ne, h⟩, O.se.off g rfl rfl, O.pd, O.pn⟩
include ok hG
theorem open8 (O : O8 T s lr sp st sd n ep ss) (h1 : u ≠ []) (h2 : u ≠ [42]) (hn : n + 1 ∉ ss.map Sn.num) (sz : ss.length < 60) : CaP c T 494 [.ref s, .str u, .int 90] (d + 3) fun v T' => v = .int (n + 1) ∧ ∃ x : Sn, x.num = n + 1 ∧ x.u = u ∧ O8 T' s lr sp st sd (n + 1) (ep + 1) (ss ++ [x]) ∧ Upd T.n (fun r _ => r ≠ s ∧ r ≠ sd) T T' := by
 obtain ⟨sf, X, rfl, rfl, e3, e4, e5⟩ := O.X
 obtain ⟨_, T1, h1, rfl, x, xn, xu, xr, X1, se1, u1⟩ := open_ok ok hG (d := d) (u := u) (args := [.ref s, .str u, .int 90]) (tm := 90) rfl (by decide) X O.se h1 h2 hn sz e4 e5 O.pd (List.cons_ne_nil _ _) O.pn
 exact ⟨_, T1, h1, rfl, x, xn, xu, ⟨⟨_, X1, rfl, rfl, e3, e4, e5⟩, se1, O.pd, Nat.le_trans O.pn u1.1⟩, u1⟩
theorem loop8 {src len : Nat} (h10 : len ≤ 10) (h11 : 11 ≤ ns.length) (n : Nat) : ∀ (i : Nat) (T : Hp) (loc : Loc) (q : List Pl) (li : Nat) (rv : Int) (fs : List Int), i + n = len → St8 T s lr sp st sd q i rv → Cl8 T s lr kk ln wh li fe ns (q.map Pl.sp) fs → Fe8 fs q i rv → Lk8 loc s kk wh li fe → LoP c (d + 16) loc T [108] src (.range 0 len) i lawB (PostB s lr sp st sd kk ln wh fe ns len) (fun _ _ => False) := by
 induction n with
 | zero =>
  intro i T loc q li rv fs hi S cl F lc
  cases hi
  exact L_endP (.inr ⟨Nat.le_refl _, rfl⟩) ⟨q, li, rv, fs, S, cl, F, lc⟩
 | succ n ih =>
  intro i T loc q li rv fs hi S cl F lc
  have il : i < len := hi ▸ Nat.lt_add_of_pos_right (Nat.succ_pos n)
  have hv : ns[i + 1]? = some (ns[i + 1]'(Nat.lt_of_le_of_lt (Nat.le_trans il h10) h11)) := List.getElem?_eq_getElem _
  refine L_nextP (y := .int (i : Int)) (.inl ⟨il, by rw [Int.zero_add]⟩) bind_one ?_
  refine (body8 ok hG (d := d) S cl F (Nat.lt_of_lt_of_le il h10) lc hv).imp (fun l T1 h => ?_) fun _ _ f => f
  obtain ⟨q', li', rv', fs', S', cl', F', lc'⟩ := h
  exact ih (i + 1) T1 l q' li' rv' fs' ((Nat.succ_add i n).trans hi) S' cl' F' lc'
theorem opens {src A : Nat} (O : O8 T s lr sp st sd 0 0 []) (hsrc : T.get src = some (.list [.str [97, 110, 110], .str [98, 111, 98], .str [99, 105, 100]])) (hA : T.get A = some (.list [])) (ns0 : src ≠ A) (na : A ≠ lr) (pa : 1 ≤ A) (hl : lk loc 440023414132 = some (.ref s)) : CoP c (d + 3) loc T (.list (.meth (.loc 440023414132) 1868984688 (.cons (.loc 1936094326) (.cons (.int 90) .nil)))) A [1936094326] src .list 0 .nil fun T' => ∃ x1 x2 x3 : Sn, (x1.num = 1 ∧ x2.num = 2 ∧ x3.num = 3) ∧ (x1.u ≠ [42] ∧ x2.u ≠ [42] ∧ x3.u ≠ [42]) ∧ O8 T' s lr sp st sd 3 3 [x1, x2, x3] ∧ T'.get A = some (.list [.int 1, .int 2, .int 3]) ∧ Upd T.n (fun r _ => r ≠ s ∧ r ≠ sd ∧ r ≠ A) T T' := by
 have kp : ∀ {T1 T2 : Hp} {n : Int} {ep : Nat} {ss : List Sn} {r : Nat} {l : List AV}, O8 T1 s lr sp st sd n ep ss → Upd T1.n (fun r _ => r ≠ s ∧ r ≠ sd) T1 T2 → T1.get r = some (.list l) → T2.get r = some (.list l) := fun O u g => u.get ⟨(let ⟨sf, X, _⟩ := O.X; ne_kd X.hs g rfl), ne_kd O.se.hd g rfl⟩ g
 have k1 : ∀ {v : AV}, lk (pt loc 1936094326 v) 440023414132 = some (.ref s) := lk_else rfl hl
 have hs : ∀ {T1 : Hp} {n : Int} {ep : Nat} {ss : List Sn}, O8 T1 s lr sp st sd n ep ss → ∃ sf : SF, T1.get s = some sf.ob := fun O => let ⟨sf, X, _⟩ := O.X; ⟨sf, X.hs⟩
 obtain ⟨f0, s0⟩ := hs O
 obtain ⟨_, T1, h1, rfl, x1, n1, e1, O1, u1⟩ := open8 ok hG (d := d) (u := [97, 110, 110]) O (List.cons_ne_nil _ _) (by decide) (by intro h; cases h) (lb rfl)
 have hA1 := kp O u1 hA
 have hs1 := kp O u1 hsrc
 have O1' := O1.lst (o := [] ++ [.int (0 + 1)]) hA1 na
 have hA1' : (hput T1 A (.list ([] ++ [.int (0 + 1)]))).get A = some (.list [.int 1]) := get_put hA1
 have hs1' : (hput T1 A (.list ([] ++ [.int (0 + 1)]))).get src = _ := get_nf ns0 hs1
 obtain ⟨f1, s1⟩ := hs O1'
 obtain ⟨_, T2, h2, rfl, x2, n2, e2, O2, u2⟩ := open8 ok hG (d := d) (u := [98, 111, 98]) O1' (List.cons_ne_nil _ _) (by decide) (by intro h; have e := List.mem_singleton.mp (show (0 : Int) + 1 + 1 ∈ [x1.num] from h); rw [n1] at e; exact absurd e (by decide)) (lb rfl)
 have hA2 := kp O1' u2 hA1'
 have hs2 := kp O1' u2 hs1'
 have O2' := O2.lst (o := [.int 1] ++ [.int (0 + 1 + 1)]) hA2 na
 have hA2' : (hput T2 A (.list ([.int 1] ++ [.int (0 + 1 + 1)]))).get A = some (.list [.int 1, .int 2]) := get_put hA2
 have hs2' : (hput T2 A (.list ([.int 1] ++ [.int (0 + 1 + 1)]))).get src = _ := get_nf ns0 hs2
 obtain ⟨f2, s2⟩ := hs O2'
 obtain ⟨_, T3, h3, rfl, x3, n3, e3, O3, u3⟩ := open8 ok hG (d := d) (u := [99, 105, 100]) O2' (List.cons_ne_nil _ _) (by decide) (by
  intro h
  obtain ⟨y, my, ey⟩ := List.mem_map.mp h
  rcases List.mem_append.mp my with my | my
  ·rw [List.nil_append] at my; cases List.mem_singleton.mp my; rw [n1] at ey; exact absurd ey (by decide)
  ·cases List.mem_singleton.mp my; rw [n2] at ey; exact absurd ey (by decide)) (lb rfl)
 have hA3 := kp O2' u3 hA2'
 have hs3 := kp O2' u3 hs2'
 have O3' := O3.lst (o := [.int 1, .int 2] ++ [.int (0 + 1 + 1 + 1)]) hA3 na
 refine Co_listP (turnL (x := some (.str [97, 110, 110])) hsrc rfl) bind_one ?_
 apply Te_nilP; apply k_ye
 refine E_lm ok k1 s0 (tM hG rfl) rfl ?_
 refine Es_loc lk_same ?_
 apply Es_cons; apply E_int; apply Es_nil
 refine k_ca h1 ?_
 refine k_ap hA1 (lb rfl) pa ?_
 refine Co_listP (turnL (x := some (.str [98, 111, 98])) hs1' rfl) bind_one ?_
 apply Te_nilP; apply k_ye
 refine E_lm ok (lk_else rfl k1) s1 (tM hG rfl) rfl ?_
 refine Es_loc lk_same ?_
 apply Es_cons; apply E_int; apply Es_nil
 refine k_ca h2 ?_
 refine k_ap hA2 (lb rfl) pa ?_
 refine Co_listP (turnL (x := some (.str [99, 105, 100])) hs2' rfl) bind_one ?_
 apply Te_nilP; apply k_ye
 refine E_lm ok (lk_else rfl (lk_else rfl k1)) s2 (tM hG rfl) rfl ?_
 refine Es_loc lk_same ?_
 apply Es_cons; apply E_int; apply Es_nil
 refine k_ca h3 ?_
 refine k_ap hA3 (lb rfl) pa ?_
 refine Co_endP (turnL (get_nf ns0 hs3) rfl) ⟨x1, x2, x3, ⟨n1, n2, n3⟩, ⟨by rw [e1]; decide, by rw [e2]; decide, by rw [e3]; decide⟩, O3', get_put hA3, ?_⟩
 have w1 : Upd T.n (fun r _ => r ≠ s ∧ r ≠ sd ∧ r ≠ A) T (hput T1 A (.list ([] ++ [.int (0 + 1)]))) := (u1.weak (Nat.le_refl _) fun _ _ p => ⟨p.1, p.2.1⟩).set (fun _ k => k.2.2 rfl) hA
 have w2 : Upd T1.n (fun r _ => r ≠ s ∧ r ≠ sd ∧ r ≠ A) (hput T1 A (.list ([] ++ [.int (0 + 1)]))) (hput T2 A (.list ([.int 1] ++ [.int (0 + 1 + 1)]))) := (u2.weak (Nat.le_refl _) fun _ _ p => ⟨p.1, p.2.1⟩).set (fun _ k => k.2.2 rfl) hA1'
 have w3 : Upd T2.n (fun r _ => r ≠ s ∧ r ≠ sd ∧ r ≠ A) (hput T2 A (.list ([.int 1] ++ [.int (0 + 1 + 1)]))) (hput T3 A (.list ([.int 1, .int 2] ++ [.int (0 + 1 + 1 + 1)]))) := (u3.weak (Nat.le_refl _) fun _ _ p => ⟨p.1, p.2.1⟩).set (fun _ k => k.2.2 rfl) hA2'
 exact (w1.then w2 u1.1).then w3 (Nat.le_trans u1.1 u2.1)
end
theorem Q8.zero : Q8 [] 0 0 := ⟨Nat.zero_le _, fun t m => (by cases m), .nil, fun t m => (by cases m), List.nodup_nil, fun t m => (by cases m), Nat.le_refl _⟩
theorem le11 {w : Int} (h : Int.fmod w 11 < 11) : (Int.fmod w 11 - 0).toNat ≤ 10 := by omega
section
variable {c : Cx} (ok : Ok c) (hG : c.G = G) {d : Nat} {ns : List Int}
include ok hG
theorem law08 (hl : ns.length ≤ 63) : CaP c (lay0 ns) 882 [.ref 0] (d + 17) fun v _ => v = .bool true := by
 have scr := lay0_get ns
 have ll : (ns.map AV.int).length < 4000 := by rw [List.length_map]; exact lt4 hl rfl
 by_cases h11 : ns.length < 11
 ·skip
  refine C_funQ ok (l := [(129129977701492, _)]) (tF hG rfl) rfl fun Qz hQ => ?_
  apply X_consP
  apply S_if
  apply T_cmpP
  refine E_callB ok (tG hG rfl) (by first | exact .inl ⟨_, rfl⟩ | exact .inr ⟨_, rfl⟩) ?_
  refine Es_loc rfl ?_
  apply Es_nil
  refine k_bc (B_lenL scr ll) ?_
  apply E_int
  refine k_cm true (cmt C_lt (decide_eq_true (by rw [List.length_map]; exact Int.ofNat_lt.mpr h11))) ?_
  apply X_consP
  apply S_ret
  apply E_bool
  apply hQ
  rfl
 ·have h11 : 11 ≤ ns.length := Nat.le_of_not_lt h11
  obtain ⟨_, T1, h1, rfl, lr, sp, st, sf, X, se, w1, w2, c0, v0, u1⟩ := store_init ok hG (d := d + 5) (T := lay0 ns) (Nat.le_refl 1)
  have scr1 := u1.get trivial scr
  have n1 : 1 ≤ T1.n := u1.1
  have pd : 1 ≤ sf.ses := Nat.pos_of_ne_zero (ne_kd scr1 se.hd rfl)
  have O1 : O8 T1 (lay0 ns).n lr sp st sf.ses 0 0 [] := ⟨⟨sf, X, rfl, c0, v0, w1, w2⟩, se, pd, n1⟩
  have lr1 := lt_of_get X.hr
  have uH : Upd T1.n All T1 (hnew (hnew T1 (.list [.str [97, 110, 110], .str [98, 111, 98], .str [99, 105, 100]])) (.list [])) := Upd.refl.new.new
  obtain ⟨T2, h2, x1, x2, x3, ⟨m1, m2, m3⟩, ⟨b1, b2, b3⟩, O2, hw2, u2⟩ := opens ok hG (d := d + 13) (T := hnew (hnew T1 (.list [.str [97, 110, 110], .str [98, 111, 98], .str [99, 105, 100]])) (.list [])) (loc := rm [k_dot0, 1936094326] [(129129977701492, .ref 0), (440023414132, .ref (lay0 ns).n)]) (src := T1.n) (A := (hnew T1 (.list [.str [97, 110, 110], .str [98, 111, 98], .str [99, 105, 100]])).n) (O1.new uH) (get_old (get_new _ _)) (get_new _ _) (Nat.ne_of_lt (Nat.lt_succ_self _)) (Nat.ne_of_gt (Nat.lt_succ_of_lt lr1)) (Nat.le_add_left 1 _) rfl
  have scr2 : T2.get 0 = some (.list (ns.map .int)) := u2.get ⟨Nat.ne_of_lt X.ps, Nat.ne_of_lt pd, Nat.ne_of_lt (Nat.le_add_left 1 _)⟩ (uH.get trivial scr1)
  obtain ⟨_, T3, h3, rfl, ln, g3, g3', u3⟩ := lock_init ok hG (d := d + 12) (T := T2) (s := (lay0 ns).n) O2.pn
  have u5 : Upd T3.n All T3 (hnew (hnew T3 (.list [])) (.list [])) := Upd.refl.new.new
  have u35 := u3.then u5 u3.1
  have O5 := O2.new u35
  obtain ⟨_, T6, h6, rfl, x4, m4, b4, O6, u6⟩ := open8 ok hG (d := d + 13) (u := [101, 121, 101]) O5 (List.cons_ne_nil _ _) (by decide) (by show (3 : Int) + 1 ∉ [x1.num, x2.num, x3.num]; rw [m1, m2, m3]; decide) (lb rfl)
  obtain ⟨sf5, X5, e5, _⟩ := id O5.X
  have k56 : ∀ {r : Nat} {a : AO}, (hnew (hnew T3 (.list [])) (.list [])).get r = some a → Nat.beq (kd sf5.ob) (kd a) = false → Nat.beq 0 (kd a) = false → T6.get r = some a := fun g q1 q2 => u6.get ⟨ne_kd X5.hs g q1, ne_kd O5.se.hd g q2⟩ g
  have l12 : T1.n + 2 ≤ T2.n := u2.1
  have lw : (hnew T1 (.list [.str [97, 110, 110], .str [98, 111, 98], .str [99, 105, 100]])).n < T2.n := lt_of_get hw2
  have lt3 : T1.n < T3.n := Nat.lt_of_lt_of_le (Nat.lt_of_lt_of_le (Nat.lt_succ_of_lt (Nat.lt_succ_self _)) l12) u3.1
  have cl : Cl8 T6 (lay0 ns).n lr T2.n ln (hnew T1 (.list [.str [97, 110, 110], .str [98, 111, 98], .str [99, 105, 100]])).n T3.n (hnew T3 (.list [])).n ns [] [] := {
   hk := k56 (u5.get trivial g3) rfl rfl
   hln := k56 (u5.get trivial g3') rfl rfl
   hw := k56 (u35.get trivial hw2) rfl rfl
   hli := k56 (get_old (get_new _ _)) rfl rfl
   hfe := k56 (get_new _ _) rfl rfl
   scr := k56 (u35.get trivial scr2) rfl rfl
   nw := Nat.ne_of_gt (Nat.lt_succ_of_lt lr1)
   nl := Nat.ne_of_gt (Nat.lt_trans lr1 lt3)
   nf := Nat.ne_of_gt (Nat.lt_succ_of_lt (Nat.lt_trans lr1 lt3))
   wl := Nat.ne_of_lt (Nat.lt_of_lt_of_le lw u3.1)
   fl := Nat.ne_of_gt (Nat.lt_succ_self _)
   wf := Nat.ne_of_lt (Nat.lt_succ_of_lt (Nat.lt_of_lt_of_le lw u3.1))
   pl := Nat.le_trans n1 (Nat.le_of_lt lt3)
   pf := Nat.le_add_left 1 _
   p0 := X.pl }
  obtain ⟨sf6, X6, e6, _, v6, _⟩ := id O6.X
  have L6 : L8 T6 (lay0 ns).n lr sp st sf.ses 4 [x1, x2, x3, x4] es00 0 0 := ⟨⟨sf6, [], X6, Nat.le_refl _, e6, v6⟩, O6.se, (fun y my => by
   cases my with
   | head => exact b1
   | tail _ my => cases my with
    | head => exact b2
    | tail _ my => cases my with
     | head => exact b3
     | tail _ my => cases my with
      | head => rw [b4]; decide
      | tail _ my => cases my), List.cons_ne_nil _ _, pd, O6.pn⟩
  have S6 : Sd8 T6 (lay0 ns).n lr sp st sf.ses 4 [x1, x2, x3, x4] es00 0 0 [] 0 0 := ⟨L6, Q8.zero, .inl ⟨rfl, rfl, rfl⟩, Nat.le_refl _, Nat.le_refl _, ⟨x4, .tail _ (.tail _ (.tail _ (.head _))), m4⟩, fun t mt => (by cases mt), Nat.le_refl _⟩
  obtain ⟨w, hw⟩ : ∃ w, ns[0]? = some w := ⟨_, List.getElem?_eq_getElem (Nat.lt_of_lt_of_le (Nat.succ_pos _) h11)⟩
  have q1 := Int.fmod_nonneg_of_pos w (show (0 : Int) < 11 by decide)
  have q2 := Int.fmod_lt_of_pos w (show (0 : Int) < 11 by decide)
  have u7 : Upd T6.n All T6 (hnew T6 (.range 0 (Int.fmod w 11))) := Upd.refl.new
  have lp := loop8 ok hG (d := d) (src := T6.n) (len := (Int.fmod w 11 - 0).toNat) (le11 q2) h11 _ 0 _ [(129129977701492, .ref 0), (440023414132, .ref (lay0 ns).n), (7367032, .ref (hnew T1 (.list [.str [97, 110, 110], .str [98, 111, 98], .str [99, 105, 100]])).n), (1818521709, .ref T2.n), (1718577773, .ref T3.n), (127983120508519, .ref (hnew T3 (.list [])).n), (6716006, .int (3 + 1))] [] T3.n 0 [] (Nat.zero_add _) ⟨_, _, _, _, _, S6.new u7⟩ (cl.all u7) ⟨.nil, fun f m => (by cases m), Nat.le_refl _⟩ ⟨rfl, rfl, rfl, rfl, rfl, rfl, rfl⟩
  obtain ⟨loc', T8, h8, q8, li8, rv8, fs8, ⟨ep8, ss8, es8, mm8, C8, S8⟩, cl8, F8, lc8⟩ | ⟨_, _, _, f⟩ := lp
  ·obtain ⟨sf8, rows8, X8, _, e8, _⟩ := id S8.L.X
   have hs8 := X8.hs
   have hfe8 := cl8.hfe
   obtain ⟨mo, pm, so⟩ := ex_sort (fun r : List Nat × En => r.1) es8
   obtain ⟨_, T9, h9, r9, rfl, g9, u9⟩ := faults_ok ok hG (d := d + 8) X8 (by rw [e8]; exact S8.L.se) (by
    intro r mr
    rcases S8.W with ⟨rfl, rfl, rfl⟩ | B
    ·cases List.mem_singleton.mp mr; exact ⟨.inl rfl, rfl⟩
    ·obtain ⟨a0, a1, a2, rfl, _, _, _, p0, p1, p2, _⟩ := B.eq
     cases mr with
     | head => exact ⟨.inl p0.1, p0.2⟩
     | tail _ mr => cases mr with
      | head => exact ⟨.inl p1.1, p1.2⟩
      | tail _ mr => cases mr with
       | head => exact ⟨.inl p2.1, p2.2⟩
       | tail _ mr =>
        obtain ⟨t, mt, rfl⟩ := List.mem_map.mp mr
        obtain ⟨y, my, ey⟩ := S8.opn t mt
        exact ⟨.inr ⟨y, my, by rw [ey]⟩, rfl⟩) pm so S8.L.pn
   have hfe9 := u9.get trivial hfe8
   have l64 : fs8.length < 64 := Nat.lt_of_le_of_lt (Nat.le_trans F8.2.2 (le11 q2)) (lb rfl)
   have srt : Srt ilt fs8 := F8.1.imp fun h => decide_eq_false (Int.not_lt.mpr (Int.le_of_lt h))
   obtain ⟨k1, k2, k3, k4, k5, k6, k7⟩ := lc8
   refine C_funQ ok (l := [(129129977701492, _)]) (tF hG rfl) rfl fun Qz hQ => ?_
   apply X_consP
   apply S_if
   apply T_cmpP
   refine E_callB ok (tG hG rfl) (by first | exact .inl ⟨_, rfl⟩ | exact .inr ⟨_, rfl⟩) ?_
   refine Es_loc rfl ?_
   apply Es_nil
   refine k_bc (B_lenL scr ll) ?_
   apply E_int
   refine k_cm false (cmt C_lt (decide_eq_false (by rw [List.length_map]; exact Int.not_lt.mpr (Int.ofNat_le.mpr h11)))) ?_
   apply X_nilP
   apply X_consP
   apply S_asg
   refine E_new ok (tG hG rfl) (tC hG rfl) rfl ?_
   apply Es_nil
   refine k_ca (h1) ?_
   apply k_no
   apply X_consP
   apply S_asg
   apply E_listc
   apply E_list
   apply Es_cons
   apply E_str
   apply Es_cons
   apply E_str
   apply Es_cons
   apply E_str
   apply Es_nil
   refine k_sh (lb rfl) ?_
   refine k_ik (ikL (get_new _ _)) ?_
   refine k_co (h2) ?_
   apply X_consP
   apply S_asg
   refine E_new ok (tG hG rfl) (tC hG rfl) rfl ?_
   refine Es_loc rfl ?_
   apply Es_cons
   apply E_str
   apply Es_nil
   refine k_ca (h3) ?_
   apply k_no
   apply X_consP
   apply S_asg
   apply E_list
   apply Es_nil
   refine k_sh (lb rfl) ?_
   apply X_consP
   apply S_asg
   apply E_list
   apply Es_nil
   refine k_sh (lb rfl) ?_
   apply X_consP
   apply S_asg
   apply E_lm ok
   exact rfl
   exact X5.hs
   exact tM hG rfl
   exact rfl
   apply Es_cons
   apply E_str
   apply Es_cons
   apply E_int
   apply Es_nil
   refine k_ca (h6) ?_
   apply X_consP
   apply S_for
   refine E_callB ok (tG hG rfl) (by first | exact .inl ⟨_, rfl⟩ | exact .inr ⟨_, rfl⟩) ?_
   apply Es_cons
   apply E_bin
   apply E_sub
   refine E_loc rfl ?_
   apply E_int
   refine k_it (I_list (j := 0) (v := .int w) cl.scr (by rw [List.getElem?_map, hw]; rfl) (lb rfl)) ?_
   apply E_int
   refine k_bi (B_modI (by decide)) ?_
   apply Es_nil
   refine k_bc (B_range) ?_
   refine k_ik (show IkOf _ _ (.range 0 (Int.fmod w 11 - 0).toNat) from ⟨_, get_new _ _, by decide, by decide, Int.lt_of_lt_of_le (by decide) q1, Int.lt_trans q2 (by decide), rfl⟩) ?_
   refine k_lo (h8) ?_
   apply X_consP
   apply S_ret
   apply E_cmp
   apply E_tuple
   refine Es_loc k6 ?_
   apply Es_cons
   apply E_lm ok
   exact k2
   ·(with_reducible repeat' first | assumption | exact get_new _ _ | apply get_put | apply get_old | refine get_nf (by assumption) ?_ | apply get_kd | with_unfolding_all rfl)
   exact tM hG rfl
   exact rfl
   apply Es_nil
   refine k_ca (h9) ?_
   apply Es_nil
   refine k_sh (lb rfl) ?_
   apply E_tuple
   apply Es_cons
   refine E_callB ok (tG hG rfl) (by first | exact .inl ⟨_, rfl⟩ | exact .inr ⟨_, rfl⟩) ?_
   refine Es_loc k6 ?_
   apply Es_nil
   refine k_bc (B_sortI (l := fs8) (m := fs8) (Its_list (get_old hfe9) (by rw [List.length_map]; exact l64)) l64 (.refl _) srt) ?_
   apply Es_cons
   apply E_list
   apply Es_nil
   refine k_sh (lb rfl) ?_
   apply Es_nil
   refine k_sh (lb rfl) ?_
   refine k_cm _ (C_eqR (f := 1) (lb rfl) (.inl ⟨get_old (get_old (get_old (get_new _ _))), get_new _ _⟩) (EqL_cons (Eq_seq (.inr ⟨get_old (get_old (get_old (get_old hfe9))), get_old (get_old (get_new _ _))⟩) EqL_same) (EqL_cons (Eq_seq (.inr ⟨get_old (get_old (get_old (get_old g9))), get_old (get_new _ _)⟩) EqL_nil) EqL_nil))) ?_
   apply hQ
   rfl
  ·exact f.elim
end
end Mine
end
section
open PySem PySem.W PyProof.Rows
set_option maxRecDepth 100000
set_option maxHeartbeats 0
namespace Mine.hx08
theorem tw10028356526897670576 : True:=⟨⟩
theorem tw10034768899014999044 : True:=⟨⟩
theorem tw10041107515360763626 : True:=⟨⟩
theorem tw10041598669261117806 : True:=⟨⟩
theorem tw10088539527550508992 : True:=⟨⟩
theorem tw10124742185739225440 : True:=⟨⟩
theorem tw10143254786653325124 : True:=⟨⟩
theorem tw10148609918862845486 : True:=⟨⟩
theorem tw10148702940797165348 : True:=⟨⟩
theorem tw10165986925641152891 : True:=⟨⟩
theorem tw10178782823931335290 : True:=⟨⟩
theorem tw1023020852702561812 : True:=⟨⟩
theorem tw10255583877770351413 : True:=⟨⟩
theorem tw10270499803892279547 : True:=⟨⟩
theorem tw10283475810950272203 : True:=⟨⟩
theorem tw10289419351228672547 : True:=⟨⟩
theorem tw10327451411469241153 : True:=⟨⟩
theorem tw103555558678785437 : True:=⟨⟩
theorem tw10363683414704549590 : True:=⟨⟩
theorem tw10368922997262368888 : True:=⟨⟩
theorem tw10421454350118181620 : True:=⟨⟩
theorem tw10493805518836758922 : True:=⟨⟩
theorem tw104952668304688001 : True:=⟨⟩
theorem tw10502629460637921195 : True:=⟨⟩
theorem tw10531788991263769647 : True:=⟨⟩
theorem tw10546858315495946381 : True:=⟨⟩
theorem tw10553067173463433521 : True:=⟨⟩
theorem tw10561623524168754059 : True:=⟨⟩
theorem tw10567050679157339013 : True:=⟨⟩
theorem tw10581379707901836486 : True:=⟨⟩
theorem tw10596273152231492629 : True:=⟨⟩
theorem tw1064523709731028203 : True:=⟨⟩
theorem tw10646511773185277414 : True:=⟨⟩
theorem tw106849189182478105 : True:=⟨⟩
theorem tw10687316717781489953 : True:=⟨⟩
theorem tw10689914803996240239 : True:=⟨⟩
theorem tw10712272976531942838 : True:=⟨⟩
theorem tw1071234398729783985 : True:=⟨⟩
theorem tw10723386888977964353 : True:=⟨⟩
theorem tw10725406646915066708 : True:=⟨⟩
theorem tw10730919856216576219 : True:=⟨⟩
theorem tw10734543500297160683 : True:=⟨⟩
theorem tw10740537424757764491 : True:=⟨⟩
theorem tw10786897779677295592 : True:=⟨⟩
theorem tw10808825480295323685 : True:=⟨⟩
theorem tw10867702476844312266 : True:=⟨⟩
theorem tw10874843090311008966 : True:=⟨⟩
theorem tw10882765218641515084 : True:=⟨⟩
theorem tw1090010736047469618 : True:=⟨⟩
theorem tw10902642195864051301 : True:=⟨⟩
theorem tw1092008744796298217 : True:=⟨⟩
theorem tw10927129409375205673 : True:=⟨⟩
theorem tw1093247033847616446 : True:=⟨⟩
theorem tw10961714252663011543 : True:=⟨⟩
theorem tw10982089825165480258 : True:=⟨⟩
theorem tw10983002738287347480 : True:=⟨⟩
theorem tw10983173923305641700 : True:=⟨⟩
theorem tw10991048381808991300 : True:=⟨⟩
theorem tw11031217216599470488 : True:=⟨⟩
theorem tw11064191950173687342 : True:=⟨⟩
theorem tw11071724153255764330 : True:=⟨⟩
theorem tw11082539379606477961 : True:=⟨⟩
theorem tw11126407456671318070 : True:=⟨⟩
theorem tw11132804182139623563 : True:=⟨⟩
theorem tw11133186140708186379 : True:=⟨⟩
theorem tw11149612385665012306 : True:=⟨⟩
theorem tw11152572451765118493 : True:=⟨⟩
theorem tw11161801445996877563 : True:=⟨⟩
theorem tw11163866627112576490 : True:=⟨⟩
theorem tw11186623220632666752 : True:=⟨⟩
theorem tw11191941635694380238 : True:=⟨⟩
theorem tw11198104151394207458 : True:=⟨⟩
theorem tw11206608005738000870 : True:=⟨⟩
theorem tw11217573084764219149 : True:=⟨⟩
theorem tw11255569538543712823 : True:=⟨⟩
theorem tw11266820040366348685 : True:=⟨⟩
theorem tw11275234142945143934 : True:=⟨⟩
theorem tw11303911872062680951 : True:=⟨⟩
theorem tw11350200173408048149 : True:=⟨⟩
theorem tw11369539430989676449 : True:=⟨⟩
theorem tw11377257076130880571 : True:=⟨⟩
theorem tw11378963148467915403 : True:=⟨⟩
theorem tw11426348027656030954 : True:=⟨⟩
theorem tw11473671932330323619 : True:=⟨⟩
theorem tw11510309842373891758 : True:=⟨⟩
theorem tw11514642469737349102 : True:=⟨⟩
theorem tw11523920405162190712 : True:=⟨⟩
theorem tw11535670072342142178 : True:=⟨⟩
theorem tw11546420111527865398 : True:=⟨⟩
theorem tw11547901163831653232 : True:=⟨⟩
theorem tw11553298329759974935 : True:=⟨⟩
theorem tw1158367369809583593 : True:=⟨⟩
theorem tw11583809385463969981 : True:=⟨⟩
theorem tw11585288696305939048 : True:=⟨⟩
theorem tw11618165470389746024 : True:=⟨⟩
theorem tw11625485368607134554 : True:=⟨⟩
theorem tw11636173729663636716 : True:=⟨⟩
theorem tw11642268198886368641 : True:=⟨⟩
theorem tw11648806269855744356 : True:=⟨⟩
theorem tw11676528234939613790 : True:=⟨⟩
theorem tw11681400682413347979 : True:=⟨⟩
theorem tw11713010821916782222 : True:=⟨⟩
theorem tw11714254355786418639 : True:=⟨⟩
theorem tw11738865964013996555 : True:=⟨⟩
theorem tw11820578036899835535 : True:=⟨⟩
theorem tw11827153993147923803 : True:=⟨⟩
theorem tw11834609575076061706 : True:=⟨⟩
theorem tw11846987763555394772 : True:=⟨⟩
theorem tw11871840309912299164 : True:=⟨⟩
theorem tw11873597202037411554 : True:=⟨⟩
theorem tw11922354935360356164 : True:=⟨⟩
theorem tw11938612511475276147 : True:=⟨⟩
theorem tw11951552061815121038 : True:=⟨⟩
theorem tw11955001742934504991 : True:=⟨⟩
theorem tw11979314815706341559 : True:=⟨⟩
theorem tw11991421606689464223 : True:=⟨⟩
theorem tw11997975751571690695 : True:=⟨⟩
theorem tw12041024778872535078 : True:=⟨⟩
theorem tw12042118616751655238 : True:=⟨⟩
theorem tw12051412982906401364 : True:=⟨⟩
theorem tw12066066432605995225 : True:=⟨⟩
theorem tw12067295331629324305 : True:=⟨⟩
theorem tw12069594484338398239 : True:=⟨⟩
theorem tw12074018647041632656 : True:=⟨⟩
theorem tw12093074677935801431 : True:=⟨⟩
theorem tw12094367621069881699 : True:=⟨⟩
theorem tw12098181894254065996 : True:=⟨⟩
theorem tw12119976319402799420 : True:=⟨⟩
theorem tw12121879371085713975 : True:=⟨⟩
theorem tw12123893090926308878 : True:=⟨⟩
theorem tw12133263997438213636 : True:=⟨⟩
theorem tw12158194299692265090 : True:=⟨⟩
theorem tw12175446717582150752 : True:=⟨⟩
theorem tw12204555511682096842 : True:=⟨⟩
theorem tw12209335329299612081 : True:=⟨⟩
theorem tw12217660836537696900 : True:=⟨⟩
theorem tw12238377672900089142 : True:=⟨⟩
theorem tw12256181273501368335 : True:=⟨⟩
theorem tw12284208447907496270 : True:=⟨⟩
theorem tw12305046220982634800 : True:=⟨⟩
theorem tw12311411521396721301 : True:=⟨⟩
theorem tw12313215873705297496 : True:=⟨⟩
theorem tw12327209313527992513 : True:=⟨⟩
theorem tw12345553048606273383 : True:=⟨⟩
theorem tw12366839070532638012 : True:=⟨⟩
theorem tw12385501412032937127 : True:=⟨⟩
theorem tw12404146070469240803 : True:=⟨⟩
theorem tw12410146470259159054 : True:=⟨⟩
theorem tw12424818209326046082 : True:=⟨⟩
theorem tw12434062862585193601 : True:=⟨⟩
theorem tw12441113290099307364 : True:=⟨⟩
theorem tw12446125823501633830 : True:=⟨⟩
theorem tw12457348828404741156 : True:=⟨⟩
theorem tw12472728439054283129 : True:=⟨⟩
theorem tw12481437552948336765 : True:=⟨⟩
theorem tw12485467304214692295 : True:=⟨⟩
theorem tw12506924111221573968 : True:=⟨⟩
theorem tw12514351059484602411 : True:=⟨⟩
theorem tw12516844590343060991 : True:=⟨⟩
theorem tw12523598085899084756 : True:=⟨⟩
theorem tw12523939156766600165 : True:=⟨⟩
theorem tw12581033537193994155 : True:=⟨⟩
theorem tw12586580308544025488 : True:=⟨⟩
theorem tw12588659468190588737 : True:=⟨⟩
theorem tw1259190389956039791 : True:=⟨⟩
theorem tw12610636291682115859 : True:=⟨⟩
theorem tw12611431888907023846 : True:=⟨⟩
theorem tw12615608894606150765 : True:=⟨⟩
theorem tw12648921202752962328 : True:=⟨⟩
theorem tw12689718104700279305 : True:=⟨⟩
theorem tw12741092851677008940 : True:=⟨⟩
theorem tw12743176567056841753 : True:=⟨⟩
theorem tw12791597751925224635 : True:=⟨⟩
theorem tw1279703881951894266 : True:=⟨⟩
theorem tw12813257712594166248 : True:=⟨⟩
theorem tw1281441090713798572 : True:=⟨⟩
theorem tw12815743622781972786 : True:=⟨⟩
theorem tw12851912931045856844 : True:=⟨⟩
theorem tw12853393507496071853 : True:=⟨⟩
theorem tw12861822870774871801 : True:=⟨⟩
theorem tw12864503192102409395 : True:=⟨⟩
theorem tw12914937055263662265 : True:=⟨⟩
theorem tw12926200890176489370 : True:=⟨⟩
theorem tw12990005503000776714 : True:=⟨⟩
theorem tw13012884914058337977 : True:=⟨⟩
theorem tw13023928809840722138 : True:=⟨⟩
theorem tw13031577598654026534 : True:=⟨⟩
theorem tw13033111870178650034 : True:=⟨⟩
theorem tw13048347696753867194 : True:=⟨⟩
theorem tw13051372619233592266 : True:=⟨⟩
theorem tw13055084975071041993 : True:=⟨⟩
theorem tw13071435562954125085 : True:=⟨⟩
theorem tw13100473337323757402 : True:=⟨⟩
theorem tw13122772686566141880 : True:=⟨⟩
theorem tw13131425070194898267 : True:=⟨⟩
theorem tw13147249091765893509 : True:=⟨⟩
theorem tw1315780501541866397 : True:=⟨⟩
theorem tw13158451078163011419 : True:=⟨⟩
theorem tw13167034963786019301 : True:=⟨⟩
theorem tw13206822980893154790 : True:=⟨⟩
theorem tw13218292591546959248 : True:=⟨⟩
theorem tw13250810521104510562 : True:=⟨⟩
theorem tw13275734062040428776 : True:=⟨⟩
theorem tw13292620021597716052 : True:=⟨⟩
theorem tw1329812368022988397 : True:=⟨⟩
theorem tw13311376292989575412 : True:=⟨⟩
theorem tw13343326090708529768 : True:=⟨⟩
theorem tw13354867271386192367 : True:=⟨⟩
theorem tw13356257502910041964 : True:=⟨⟩
theorem tw1337014925636975256 : True:=⟨⟩
theorem tw13390715853748861420 : True:=⟨⟩
theorem tw13428553992853946905 : True:=⟨⟩
theorem tw13457852753191304336 : True:=⟨⟩
theorem tw13476586182205781532 : True:=⟨⟩
theorem tw1347881085656622851 : True:=⟨⟩
theorem tw13487150174958876491 : True:=⟨⟩
theorem tw13520712417940725716 : True:=⟨⟩
theorem tw13574948882113612090 : True:=⟨⟩
theorem tw13587583966580208167 : True:=⟨⟩
theorem tw13638580030110018542 : True:=⟨⟩
theorem tw13661004693025314153 : True:=⟨⟩
theorem tw13667886624774018874 : True:=⟨⟩
theorem tw13673387273160197598 : True:=⟨⟩
theorem tw13702699850173183248 : True:=⟨⟩
theorem tw13710849019109504012 : True:=⟨⟩
theorem tw13717759316356873407 : True:=⟨⟩
theorem tw13741242401979666095 : True:=⟨⟩
theorem tw13753009957285200123 : True:=⟨⟩
theorem tw13753287078622309600 : True:=⟨⟩
theorem tw13779885793886570064 : True:=⟨⟩
theorem tw13814218754492316430 : True:=⟨⟩
theorem tw13819187664979417625 : True:=⟨⟩
theorem tw13825406047413654756 : True:=⟨⟩
theorem tw13848950490536020282 : True:=⟨⟩
theorem tw13853599871002930535 : True:=⟨⟩
theorem tw13859623096623482712 : True:=⟨⟩
theorem tw13861500093800089925 : True:=⟨⟩
theorem tw13917762560572985500 : True:=⟨⟩
theorem tw13974100561511137906 : True:=⟨⟩
theorem tw13998449529807304073 : True:=⟨⟩
theorem tw14012472277292000351 : True:=⟨⟩
theorem tw14030144776065152935 : True:=⟨⟩
theorem tw14040356326938842876 : True:=⟨⟩
theorem tw14053937384211104251 : True:=⟨⟩
theorem tw1407454660497809881 : True:=⟨⟩
theorem tw14097955239296845252 : True:=⟨⟩
theorem tw14100798674358461512 : True:=⟨⟩
theorem tw14139509890292606181 : True:=⟨⟩
theorem tw14178249006602129044 : True:=⟨⟩
theorem tw14198071168816479509 : True:=⟨⟩
theorem tw14220695560785601040 : True:=⟨⟩
theorem tw14229465775920124592 : True:=⟨⟩
theorem tw14313245895794044060 : True:=⟨⟩
theorem tw14329936557223922604 : True:=⟨⟩
theorem tw14387615485177772337 : True:=⟨⟩
theorem tw14387932699591986713 : True:=⟨⟩
theorem tw14399092686599796717 : True:=⟨⟩
theorem tw14417491750494768866 : True:=⟨⟩
theorem tw14418642929915942234 : True:=⟨⟩
theorem tw14421975234929183284 : True:=⟨⟩
theorem tw14458805647414171064 : True:=⟨⟩
theorem tw14492487108354986660 : True:=⟨⟩
theorem tw14496175243566580629 : True:=⟨⟩
theorem tw14548069851097553162 : True:=⟨⟩
theorem tw14564260978098682665 : True:=⟨⟩
theorem tw14589205698704235062 : True:=⟨⟩
theorem tw14630224026315998981 : True:=⟨⟩
theorem tw14635933905873198230 : True:=⟨⟩
theorem tw14640897208104472406 : True:=⟨⟩
theorem tw14658343763104016884 : True:=⟨⟩
theorem tw14661233535169536183 : True:=⟨⟩
theorem tw14661892712943647889 : True:=⟨⟩
theorem tw14672934435576438631 : True:=⟨⟩
theorem tw14675017462523663021 : True:=⟨⟩
theorem tw14675700853869622540 : True:=⟨⟩
theorem tw146817250694747596 : True:=⟨⟩
theorem tw14696925347590670166 : True:=⟨⟩
theorem tw14697348818666530987 : True:=⟨⟩
theorem tw14710809399901588488 : True:=⟨⟩
theorem tw1474683616801852673 : True:=⟨⟩
theorem tw14755297427992430044 : True:=⟨⟩
theorem tw1478067623300644881 : True:=⟨⟩
theorem tw1478190393671925228 : True:=⟨⟩
theorem tw14808654898164139203 : True:=⟨⟩
theorem tw14811041518878473232 : True:=⟨⟩
theorem tw14829807957811712038 : True:=⟨⟩
theorem tw14865273026004749773 : True:=⟨⟩
theorem tw14872663410005381966 : True:=⟨⟩
theorem tw14888834663855929614 : True:=⟨⟩
theorem tw14896156431452040055 : True:=⟨⟩
theorem tw14902690909879316672 : True:=⟨⟩
theorem tw14908621583510648686 : True:=⟨⟩
theorem tw14928916643357479821 : True:=⟨⟩
theorem tw14965857480526673529 : True:=⟨⟩
theorem tw14971746953114581668 : True:=⟨⟩
theorem tw14980175815881476011 : True:=⟨⟩
theorem tw15025007595817350520 : True:=⟨⟩
theorem tw15027119449756449763 : True:=⟨⟩
theorem tw15031714757823387639 : True:=⟨⟩
theorem tw15038898828856169656 : True:=⟨⟩
theorem tw15068564219866873322 : True:=⟨⟩
theorem tw15107606299365094656 : True:=⟨⟩
theorem tw15112661112334434416 : True:=⟨⟩
theorem tw15129796418077445316 : True:=⟨⟩
theorem tw15132511369995251553 : True:=⟨⟩
theorem tw15134388182343761068 : True:=⟨⟩
theorem tw15139965936496676915 : True:=⟨⟩
theorem tw15161745199438993334 : True:=⟨⟩
theorem tw15163513774921856324 : True:=⟨⟩
theorem tw15165409882060076415 : True:=⟨⟩
theorem tw15176026686466565317 : True:=⟨⟩
theorem tw15225763509191142141 : True:=⟨⟩
theorem tw15233315368524752567 : True:=⟨⟩
theorem tw15233748187850060082 : True:=⟨⟩
theorem tw15244675576106689705 : True:=⟨⟩
theorem tw15260078140488299229 : True:=⟨⟩
theorem tw15264748019521066633 : True:=⟨⟩
theorem tw15278831078328620366 : True:=⟨⟩
theorem tw15309490404119989129 : True:=⟨⟩
theorem tw15312644764078515014 : True:=⟨⟩
theorem tw15318938582934682775 : True:=⟨⟩
theorem tw15326351652731552730 : True:=⟨⟩
theorem tw15340767176791035550 : True:=⟨⟩
theorem tw15343137933669477662 : True:=⟨⟩
theorem tw15343611810201527431 : True:=⟨⟩
theorem tw15350670915624951243 : True:=⟨⟩
theorem tw15374361809080185317 : True:=⟨⟩
theorem tw15389428419536969479 : True:=⟨⟩
theorem tw15393924351426996518 : True:=⟨⟩
theorem tw1540170734157300574 : True:=⟨⟩
theorem tw15412813720187666628 : True:=⟨⟩
theorem tw1543479688033317222 : True:=⟨⟩
theorem tw15449892467048218758 : True:=⟨⟩
theorem tw15457750047372230343 : True:=⟨⟩
theorem tw15466086297696203403 : True:=⟨⟩
theorem tw15472789683719826906 : True:=⟨⟩
theorem tw15506208175322401538 : True:=⟨⟩
theorem tw15514651793479958867 : True:=⟨⟩
theorem tw15519411671796784988 : True:=⟨⟩
theorem tw15599675940079474834 : True:=⟨⟩
theorem tw15646490465888712505 : True:=⟨⟩
theorem tw15667063646253752051 : True:=⟨⟩
theorem tw15671234131830783643 : True:=⟨⟩
theorem tw15687480818426600466 : True:=⟨⟩
theorem tw15692174457268546042 : True:=⟨⟩
theorem tw15702822021669740626 : True:=⟨⟩
theorem tw15707686871609474196 : True:=⟨⟩
theorem tw15728008060651710631 : True:=⟨⟩
theorem tw15740088184808555856 : True:=⟨⟩
theorem tw15745792584051646273 : True:=⟨⟩
theorem tw15756883974048601395 : True:=⟨⟩
theorem tw1577745988766896572 : True:=⟨⟩
theorem tw15804731751475484488 : True:=⟨⟩
theorem tw15850673598207916587 : True:=⟨⟩
theorem tw15859662402348401953 : True:=⟨⟩
theorem tw15868191980695506536 : True:=⟨⟩
theorem tw15871060955729157299 : True:=⟨⟩
theorem tw15923486294337593599 : True:=⟨⟩
theorem tw159753087936001467 : True:=⟨⟩
theorem tw15976065973869077057 : True:=⟨⟩
theorem tw15984090057280982092 : True:=⟨⟩
theorem tw15985715894200970427 : True:=⟨⟩
theorem tw15990241712184358823 : True:=⟨⟩
theorem tw16008622866155106793 : True:=⟨⟩
theorem tw16082334944563171467 : True:=⟨⟩
theorem tw16094860776541633445 : True:=⟨⟩
theorem tw16116586854908018983 : True:=⟨⟩
theorem tw16126849249359913853 : True:=⟨⟩
theorem tw16143310735854658807 : True:=⟨⟩
theorem tw16161388915706481533 : True:=⟨⟩
theorem tw16197401679860373583 : True:=⟨⟩
theorem tw16221444409179047642 : True:=⟨⟩
theorem tw16238943427551777592 : True:=⟨⟩
theorem tw16249762433950443441 : True:=⟨⟩
theorem tw16255697484737046135 : True:=⟨⟩
theorem tw1626495287830389567 : True:=⟨⟩
theorem tw16282795552698468122 : True:=⟨⟩
theorem tw1629405722407629338 : True:=⟨⟩
theorem tw16320982721768123416 : True:=⟨⟩
theorem tw16321112713090600670 : True:=⟨⟩
theorem tw1636987303391580427 : True:=⟨⟩
theorem tw16387177158202306125 : True:=⟨⟩
theorem tw16423204962811030651 : True:=⟨⟩
theorem tw16426610912578692500 : True:=⟨⟩
theorem tw164434868303103595 : True:=⟨⟩
theorem tw16462714913545210279 : True:=⟨⟩
theorem tw16465839398110089012 : True:=⟨⟩
theorem tw16477943598871727367 : True:=⟨⟩
theorem tw16485853162815030457 : True:=⟨⟩
theorem tw16486463350456709270 : True:=⟨⟩
theorem tw16501347911382605317 : True:=⟨⟩
theorem tw16505939943777386867 : True:=⟨⟩
theorem tw16563554067292773728 : True:=⟨⟩
theorem tw16589187327570649035 : True:=⟨⟩
theorem tw16605627492492256085 : True:=⟨⟩
theorem tw16616940999251254657 : True:=⟨⟩
theorem tw16633461628292209321 : True:=⟨⟩
theorem tw16636819279011715497 : True:=⟨⟩
theorem tw16654797220752136796 : True:=⟨⟩
theorem tw16657195406432517169 : True:=⟨⟩
theorem tw16662641878778415409 : True:=⟨⟩
theorem tw16664364501802975734 : True:=⟨⟩
theorem tw16685663071644714783 : True:=⟨⟩
theorem tw16687560856009288892 : True:=⟨⟩
theorem tw16723029565574768895 : True:=⟨⟩
theorem tw16731180696708498394 : True:=⟨⟩
theorem tw16732530271139684784 : True:=⟨⟩
theorem tw16746666583814516084 : True:=⟨⟩
theorem tw16748878764860017575 : True:=⟨⟩
theorem tw16750937515159412385 : True:=⟨⟩
theorem tw16753492957343474909 : True:=⟨⟩
theorem tw1675997439054379538 : True:=⟨⟩
theorem tw16802457327319515506 : True:=⟨⟩
theorem tw16811432656709300376 : True:=⟨⟩
theorem tw16817894513543908246 : True:=⟨⟩
theorem tw16823397020592672028 : True:=⟨⟩
theorem tw16832852455055972337 : True:=⟨⟩
theorem tw16885352385719866098 : True:=⟨⟩
theorem tw16888407262916532047 : True:=⟨⟩
theorem tw16894509384721613282 : True:=⟨⟩
theorem tw16903122124970301307 : True:=⟨⟩
theorem tw16922484277305294895 : True:=⟨⟩
theorem tw1693808161115974185 : True:=⟨⟩
theorem tw16958315406909139247 : True:=⟨⟩
theorem tw16963778622875410609 : True:=⟨⟩
theorem tw16969752684739320853 : True:=⟨⟩
theorem tw16979194104538681273 : True:=⟨⟩
theorem tw17003654890574967952 : True:=⟨⟩
theorem tw17007024647534977059 : True:=⟨⟩
theorem tw17008767315008295912 : True:=⟨⟩
theorem tw17026944895750788075 : True:=⟨⟩
theorem tw17028713085813970505 : True:=⟨⟩
theorem tw17064833576848522204 : True:=⟨⟩
theorem tw17070754739596916532 : True:=⟨⟩
theorem tw170710971179401764 : True:=⟨⟩
theorem tw17075900610714141684 : True:=⟨⟩
theorem tw17099411462887879921 : True:=⟨⟩
theorem tw17103873374619239447 : True:=⟨⟩
theorem tw1717391537574880246 : True:=⟨⟩
theorem tw17199589246072522951 : True:=⟨⟩
theorem tw17211891044601542841 : True:=⟨⟩
theorem tw17213495314648883693 : True:=⟨⟩
theorem tw17239893342247311497 : True:=⟨⟩
theorem tw17241530694069594270 : True:=⟨⟩
theorem tw17244244606374816343 : True:=⟨⟩
theorem tw17260851757845244312 : True:=⟨⟩
theorem tw17288089775249860475 : True:=⟨⟩
theorem tw17292143940066234102 : True:=⟨⟩
theorem tw17299869626824322320 : True:=⟨⟩
theorem tw17314433703108943326 : True:=⟨⟩
theorem tw17317593681000842238 : True:=⟨⟩
theorem tw17344185000690811781 : True:=⟨⟩
theorem tw17354022732249415881 : True:=⟨⟩
theorem tw17368641863101226407 : True:=⟨⟩
theorem tw17404850862336139659 : True:=⟨⟩
theorem tw17407711511094533262 : True:=⟨⟩
theorem tw17437489990571350416 : True:=⟨⟩
theorem tw17450183307534698137 : True:=⟨⟩
theorem tw17451834380348047987 : True:=⟨⟩
theorem tw17456819258194404377 : True:=⟨⟩
theorem tw17513209893348843925 : True:=⟨⟩
theorem tw17514178336759171699 : True:=⟨⟩
theorem tw17524686704097689752 : True:=⟨⟩
theorem tw1754009003454176813 : True:=⟨⟩
theorem tw17576647599223943716 : True:=⟨⟩
theorem tw17610658667558391734 : True:=⟨⟩
theorem tw17634247049476475673 : True:=⟨⟩
theorem tw17640317939824815259 : True:=⟨⟩
theorem tw17653553037903295926 : True:=⟨⟩
theorem tw17662222858828332372 : True:=⟨⟩
theorem tw1768182805947308666 : True:=⟨⟩
theorem tw17688231629401788442 : True:=⟨⟩
theorem tw17736160989150213738 : True:=⟨⟩
theorem tw17808120969127931371 : True:=⟨⟩
theorem tw17825345936120671262 : True:=⟨⟩
theorem tw17837061802069099002 : True:=⟨⟩
theorem tw17837137234146090309 : True:=⟨⟩
theorem tw17844179007262609120 : True:=⟨⟩
theorem tw17880901607658297365 : True:=⟨⟩
theorem tw17890625580229839222 : True:=⟨⟩
theorem tw17891790792958358437 : True:=⟨⟩
theorem tw17918051270263342287 : True:=⟨⟩
theorem tw17920091087740346243 : True:=⟨⟩
theorem tw17938405317883277629 : True:=⟨⟩
theorem tw17970063043092156625 : True:=⟨⟩
theorem tw17976925437096104012 : True:=⟨⟩
theorem tw17990444360107531193 : True:=⟨⟩
theorem tw17995646327745274028 : True:=⟨⟩
theorem tw18007791710898697783 : True:=⟨⟩
theorem tw18009554195691536848 : True:=⟨⟩
theorem tw18015827002100516955 : True:=⟨⟩
theorem tw18019751267179571177 : True:=⟨⟩
theorem tw18080629306276126910 : True:=⟨⟩
theorem tw18113040272639489105 : True:=⟨⟩
theorem tw18133488075987616421 : True:=⟨⟩
theorem tw18155999450648105266 : True:=⟨⟩
theorem tw18163214532525191661 : True:=⟨⟩
theorem tw18166091454409568072 : True:=⟨⟩
theorem tw18198769822028909792 : True:=⟨⟩
theorem tw18212848011956910195 : True:=⟨⟩
theorem tw1822162735138440335 : True:=⟨⟩
theorem tw18228510695021369505 : True:=⟨⟩
theorem tw18244491522827858741 : True:=⟨⟩
theorem tw18253471879553782808 : True:=⟨⟩
theorem tw18258464069203994839 : True:=⟨⟩
theorem tw18258691457959207267 : True:=⟨⟩
theorem tw18272985469936656458 : True:=⟨⟩
theorem tw18275306079613726465 : True:=⟨⟩
theorem tw18287887481436092922 : True:=⟨⟩
theorem tw18289811834309430988 : True:=⟨⟩
theorem tw18292194917885969414 : True:=⟨⟩
theorem tw18314508440751292058 : True:=⟨⟩
theorem tw18350489881751825231 : True:=⟨⟩
theorem tw18381304780648545052 : True:=⟨⟩
theorem tw18389423613318849044 : True:=⟨⟩
theorem tw18415541620858540094 : True:=⟨⟩
theorem tw18428107573635996946 : True:=⟨⟩
theorem tw18432972850540161379 : True:=⟨⟩
theorem tw1850059068546140350 : True:=⟨⟩
theorem tw1857045242889089950 : True:=⟨⟩
theorem tw1862293025552316379 : True:=⟨⟩
theorem tw1880310254249819594 : True:=⟨⟩
theorem tw1891442299626112394 : True:=⟨⟩
theorem tw1924656069245978765 : True:=⟨⟩
theorem tw1945818077943499935 : True:=⟨⟩
theorem tw1962066210684231054 : True:=⟨⟩
theorem tw197832532605758416 : True:=⟨⟩
theorem tw1979219288009487533 : True:=⟨⟩
theorem tw1982861550912644657 : True:=⟨⟩
theorem tw2009952951771880310 : True:=⟨⟩
theorem tw2032860671821235675 : True:=⟨⟩
theorem tw2032916444450472372 : True:=⟨⟩
theorem tw2034357771273100932 : True:=⟨⟩
theorem tw2035491848452778799 : True:=⟨⟩
theorem tw2044700637657133726 : True:=⟨⟩
theorem tw2075762491605869283 : True:=⟨⟩
theorem tw2076873910557561763 : True:=⟨⟩
theorem tw2106750065015563331 : True:=⟨⟩
theorem tw2114241296507034681 : True:=⟨⟩
theorem tw211774949146487778 : True:=⟨⟩
theorem tw2123462302925242758 : True:=⟨⟩
theorem tw2155259591138475528 : True:=⟨⟩
theorem tw21590475552305699 : True:=⟨⟩
theorem tw2166296895706134728 : True:=⟨⟩
theorem tw2172814470201775484 : True:=⟨⟩
theorem tw2187222625323029037 : True:=⟨⟩
theorem tw2217080172435410966 : True:=⟨⟩
theorem tw2259096500423974863 : True:=⟨⟩
theorem tw2268210394923378505 : True:=⟨⟩
theorem tw2273125844966358565 : True:=⟨⟩
theorem tw231811024324167147 : True:=⟨⟩
theorem tw2341386043621863132 : True:=⟨⟩
theorem tw2369906314295463032 : True:=⟨⟩
theorem tw2370769078927106127 : True:=⟨⟩
theorem tw241844248457675527 : True:=⟨⟩
theorem tw2422860239219221020 : True:=⟨⟩
theorem tw2429649739583993354 : True:=⟨⟩
theorem tw2433177930382616071 : True:=⟨⟩
theorem tw2433870802447936803 : True:=⟨⟩
theorem tw2460628186145789827 : True:=⟨⟩
theorem tw2482140645644147461 : True:=⟨⟩
theorem tw2489711000848070527 : True:=⟨⟩
theorem tw2510329746560687263 : True:=⟨⟩
theorem tw2560434766669475342 : True:=⟨⟩
theorem tw2570307492568904605 : True:=⟨⟩
theorem tw25888878153290887 : True:=⟨⟩
theorem tw2599305946858202922 : True:=⟨⟩
theorem tw2600067551459024078 : True:=⟨⟩
theorem tw2639944974595260050 : True:=⟨⟩
theorem tw2640496680057659069 : True:=⟨⟩
theorem tw2686674623607043717 : True:=⟨⟩
theorem tw2697800878541652062 : True:=⟨⟩
theorem tw275431172045252899 : True:=⟨⟩
theorem tw2763194529475946195 : True:=⟨⟩
theorem tw2769763453808801819 : True:=⟨⟩
theorem tw2772174879642966900 : True:=⟨⟩
theorem tw2796194908550181646 : True:=⟨⟩
theorem tw2803389703707803222 : True:=⟨⟩
theorem tw2808638082240078796 : True:=⟨⟩
theorem tw2834636700971237241 : True:=⟨⟩
theorem tw2856667768984746578 : True:=⟨⟩
theorem tw2869733484520285076 : True:=⟨⟩
theorem tw2888809222639311571 : True:=⟨⟩
theorem tw2927906579468231670 : True:=⟨⟩
theorem tw2932226083658667911 : True:=⟨⟩
theorem tw2941741913699457830 : True:=⟨⟩
theorem tw2949380385202838403 : True:=⟨⟩
theorem tw2967636569758702795 : True:=⟨⟩
theorem tw2973389146885004744 : True:=⟨⟩
theorem tw2973999251120064847 : True:=⟨⟩
theorem tw2976652093361460131 : True:=⟨⟩
theorem tw2987217320824433263 : True:=⟨⟩
theorem tw3000253314395668629 : True:=⟨⟩
theorem tw300407269784581160 : True:=⟨⟩
theorem tw3004623507696926295 : True:=⟨⟩
theorem tw3040007874517051964 : True:=⟨⟩
theorem tw3062108965145889628 : True:=⟨⟩
theorem tw3068254237115732415 : True:=⟨⟩
theorem tw3100800671528794204 : True:=⟨⟩
theorem tw3103623115282444203 : True:=⟨⟩
theorem tw3125320816781159940 : True:=⟨⟩
theorem tw3134638400659493231 : True:=⟨⟩
theorem tw313714586893488323 : True:=⟨⟩
theorem tw3138187998959605141 : True:=⟨⟩
theorem tw3162242299970918281 : True:=⟨⟩
theorem tw3166176853245884667 : True:=⟨⟩
theorem tw320723164922479616 : True:=⟨⟩
theorem tw321213594189987516 : True:=⟨⟩
theorem tw322181852291921086 : True:=⟨⟩
theorem tw323176585941918922 : True:=⟨⟩
theorem tw3280290325661032084 : True:=⟨⟩
theorem tw3285803043797068422 : True:=⟨⟩
theorem tw3288896589417821785 : True:=⟨⟩
theorem tw3292946202526436294 : True:=⟨⟩
theorem tw3309113053883616210 : True:=⟨⟩
theorem tw3325192287676555742 : True:=⟨⟩
theorem tw3329555335409857919 : True:=⟨⟩
theorem tw3341256985125626246 : True:=⟨⟩
theorem tw3365984490922663722 : True:=⟨⟩
theorem tw3380958094249092799 : True:=⟨⟩
theorem tw3382334496348868843 : True:=⟨⟩
theorem tw3386368796832215318 : True:=⟨⟩
theorem tw3390907536796647413 : True:=⟨⟩
theorem tw3420789478190933088 : True:=⟨⟩
theorem tw3421444081870899877 : True:=⟨⟩
theorem tw3429668682144577345 : True:=⟨⟩
theorem tw3492088929172346999 : True:=⟨⟩
theorem tw3514993611693536664 : True:=⟨⟩
theorem tw3522531472709175561 : True:=⟨⟩
theorem tw3530905487738379017 : True:=⟨⟩
theorem tw3541223323036837127 : True:=⟨⟩
theorem tw3548151918018758356 : True:=⟨⟩
theorem tw3550081376788641784 : True:=⟨⟩
theorem tw3552599085627767147 : True:=⟨⟩
theorem tw358054770182962617 : True:=⟨⟩
theorem tw3580717528385143187 : True:=⟨⟩
theorem tw3601334019852569178 : True:=⟨⟩
theorem tw3610041300579274889 : True:=⟨⟩
theorem tw3671903219254087885 : True:=⟨⟩
theorem tw3680627209850431365 : True:=⟨⟩
theorem tw3701948583878345189 : True:=⟨⟩
theorem tw37125886021507458 : True:=⟨⟩
theorem tw3716326773025084702 : True:=⟨⟩
theorem tw3731908721446892097 : True:=⟨⟩
theorem tw3747624834184448211 : True:=⟨⟩
theorem tw3750842803194000579 : True:=⟨⟩
theorem tw3756637094348735382 : True:=⟨⟩
theorem tw3763139209545791074 : True:=⟨⟩
theorem tw3789320666523422441 : True:=⟨⟩
theorem tw3809025847830266101 : True:=⟨⟩
theorem tw3823223764884842930 : True:=⟨⟩
theorem tw3824495696836798296 : True:=⟨⟩
theorem tw387134561463684563 : True:=⟨⟩
theorem tw389550056063152743 : True:=⟨⟩
theorem tw3952211285261940345 : True:=⟨⟩
theorem tw395583083810550200 : True:=⟨⟩
theorem tw3966611569334619548 : True:=⟨⟩
theorem tw4000788102102525911 : True:=⟨⟩
theorem tw4001338712368725800 : True:=⟨⟩
theorem tw4005433354808141827 : True:=⟨⟩
theorem tw4012953056873417172 : True:=⟨⟩
theorem tw4014895983322832693 : True:=⟨⟩
theorem tw4054042245586186017 : True:=⟨⟩
theorem tw4063733502275065857 : True:=⟨⟩
theorem tw4074734549164690582 : True:=⟨⟩
theorem tw4080398388208794456 : True:=⟨⟩
theorem tw4100637094316745233 : True:=⟨⟩
theorem tw4110834904158359223 : True:=⟨⟩
theorem tw4110876192342818087 : True:=⟨⟩
theorem tw4150017084783454590 : True:=⟨⟩
theorem tw4160784440517822713 : True:=⟨⟩
theorem tw4179050515394115251 : True:=⟨⟩
theorem tw4198078609678324007 : True:=⟨⟩
theorem tw4242164490117188042 : True:=⟨⟩
theorem tw4269318213518967366 : True:=⟨⟩
theorem tw4274453165721382101 : True:=⟨⟩
theorem tw4278389555292368589 : True:=⟨⟩
theorem tw4293332717637144458 : True:=⟨⟩
theorem tw4302738985331764105 : True:=⟨⟩
theorem tw4305235786995976783 : True:=⟨⟩
theorem tw4311385515743349017 : True:=⟨⟩
theorem tw4314183412185564414 : True:=⟨⟩
theorem tw4325158072091824679 : True:=⟨⟩
theorem tw4334024723455627195 : True:=⟨⟩
theorem tw4334743310619408934 : True:=⟨⟩
theorem tw4342060117066398484 : True:=⟨⟩
theorem tw4348392378593662656 : True:=⟨⟩
theorem tw4357583001630085349 : True:=⟨⟩
theorem tw4396476846003200929 : True:=⟨⟩
theorem tw440562618989023442 : True:=⟨⟩
theorem tw4411415853749498280 : True:=⟨⟩
theorem tw4457007391476656181 : True:=⟨⟩
theorem tw4459746178965036916 : True:=⟨⟩
theorem tw4464492138109746240 : True:=⟨⟩
theorem tw4493544437059033937 : True:=⟨⟩
theorem tw4512519641315860625 : True:=⟨⟩
theorem tw4552963454892815099 : True:=⟨⟩
theorem tw4558554550073794898 : True:=⟨⟩
theorem tw4567986816953351768 : True:=⟨⟩
theorem tw4571711830331417043 : True:=⟨⟩
theorem tw4593387916353865327 : True:=⟨⟩
theorem tw4596697581548176619 : True:=⟨⟩
theorem tw4629414123436806471 : True:=⟨⟩
theorem tw4641882861955638581 : True:=⟨⟩
theorem tw4642474326138995006 : True:=⟨⟩
theorem tw4672810726774569539 : True:=⟨⟩
theorem tw469830572836128468 : True:=⟨⟩
theorem tw4714712479596862272 : True:=⟨⟩
theorem tw475634298649310918 : True:=⟨⟩
theorem tw4758919193281570333 : True:=⟨⟩
theorem tw4793276639548680261 : True:=⟨⟩
theorem tw4802469411999695144 : True:=⟨⟩
theorem tw4824115038667231223 : True:=⟨⟩
theorem tw4852991289841581003 : True:=⟨⟩
theorem tw4866131749759649003 : True:=⟨⟩
theorem tw4872208303251536591 : True:=⟨⟩
theorem tw4875581089554892008 : True:=⟨⟩
theorem tw4880470691684390786 : True:=⟨⟩
theorem tw4902022810517902321 : True:=⟨⟩
theorem tw491261616582780801 : True:=⟨⟩
theorem tw4913695099307728738 : True:=⟨⟩
theorem tw4928066997574284881 : True:=⟨⟩
theorem tw4949151231169528516 : True:=⟨⟩
theorem tw497884076704512116 : True:=⟨⟩
theorem tw4980278089952673985 : True:=⟨⟩
theorem tw5072477991511838805 : True:=⟨⟩
theorem tw5076574412157548799 : True:=⟨⟩
theorem tw5076761524304160742 : True:=⟨⟩
theorem tw5086550096437213149 : True:=⟨⟩
theorem tw511370002363582476 : True:=⟨⟩
theorem tw5122488089705198383 : True:=⟨⟩
theorem tw5140028441559564382 : True:=⟨⟩
theorem tw5148528485096979311 : True:=⟨⟩
theorem tw5161246407771810810 : True:=⟨⟩
theorem tw5169634962976829078 : True:=⟨⟩
theorem tw5201168330429945836 : True:=⟨⟩
theorem tw5205826818403517717 : True:=⟨⟩
theorem tw5222004920017438933 : True:=⟨⟩
theorem tw5238692625489547825 : True:=⟨⟩
theorem tw5246084625008146401 : True:=⟨⟩
theorem tw5297309795782240419 : True:=⟨⟩
theorem tw5301909329964548765 : True:=⟨⟩
theorem tw5310085251886516871 : True:=⟨⟩
theorem tw5310301221858207518 : True:=⟨⟩
theorem tw5360614460846744258 : True:=⟨⟩
theorem tw53615566770815067 : True:=⟨⟩
theorem tw5397734399495639234 : True:=⟨⟩
theorem tw5429753241150884977 : True:=⟨⟩
theorem tw5454785042198387343 : True:=⟨⟩
theorem tw5474104420344934276 : True:=⟨⟩
theorem tw5491392981898510486 : True:=⟨⟩
theorem tw5517380440656247872 : True:=⟨⟩
theorem tw5528025311193073625 : True:=⟨⟩
theorem tw5543056024190035168 : True:=⟨⟩
theorem tw5576429220398504760 : True:=⟨⟩
theorem tw5601070382942010726 : True:=⟨⟩
theorem tw5605855585856115420 : True:=⟨⟩
theorem tw5610313720955527138 : True:=⟨⟩
theorem tw5627307893591439534 : True:=⟨⟩
theorem tw5664009069895716598 : True:=⟨⟩
theorem tw5678403281059306613 : True:=⟨⟩
theorem tw5698560093867038089 : True:=⟨⟩
theorem tw5721745140000240713 : True:=⟨⟩
theorem tw5729978567869383630 : True:=⟨⟩
theorem tw5735085367091569778 : True:=⟨⟩
theorem tw5772632019697836950 : True:=⟨⟩
theorem tw5790457492760737206 : True:=⟨⟩
theorem tw5819786930867269897 : True:=⟨⟩
theorem tw5821749773440878361 : True:=⟨⟩
theorem tw584592466638123867 : True:=⟨⟩
theorem tw5860301278666887516 : True:=⟨⟩
theorem tw5864569529235910552 : True:=⟨⟩
theorem tw5876181034596739207 : True:=⟨⟩
theorem tw5881657954996042711 : True:=⟨⟩
theorem tw5898639177796356675 : True:=⟨⟩
theorem tw590928266144159219 : True:=⟨⟩
theorem tw5915169138531827973 : True:=⟨⟩
theorem tw5946526701024555483 : True:=⟨⟩
theorem tw598901754539798785 : True:=⟨⟩
theorem tw6018274939997186079 : True:=⟨⟩
theorem tw6023977997274914106 : True:=⟨⟩
theorem tw6028246628461409031 : True:=⟨⟩
theorem tw6034917248951454007 : True:=⟨⟩
theorem tw6052175792829392746 : True:=⟨⟩
theorem tw6072105696373844460 : True:=⟨⟩
theorem tw6085268941174285120 : True:=⟨⟩
theorem tw6094051001960947287 : True:=⟨⟩
theorem tw6103902897574693337 : True:=⟨⟩
theorem tw6111143022030787059 : True:=⟨⟩
theorem tw6148187578754267721 : True:=⟨⟩
theorem tw6152850508090256539 : True:=⟨⟩
theorem tw617955750218141484 : True:=⟨⟩
theorem tw6196856890995433417 : True:=⟨⟩
theorem tw6238361076581075253 : True:=⟨⟩
theorem tw6261465517998657844 : True:=⟨⟩
theorem tw6267359277011622310 : True:=⟨⟩
theorem tw6331909798319399420 : True:=⟨⟩
theorem tw6346837341142591005 : True:=⟨⟩
theorem tw6382963993015410866 : True:=⟨⟩
theorem tw6391413602206612158 : True:=⟨⟩
theorem tw6404412407862221333 : True:=⟨⟩
theorem tw6407531598377720989 : True:=⟨⟩
theorem tw6434215080388404863 : True:=⟨⟩
theorem tw6463429761500879213 : True:=⟨⟩
theorem tw6479545293662893859 : True:=⟨⟩
theorem tw6486763500257894460 : True:=⟨⟩
theorem tw6490915720049535326 : True:=⟨⟩
theorem tw6509938031365710860 : True:=⟨⟩
theorem tw6524200438764719305 : True:=⟨⟩
theorem tw6534513156336674057 : True:=⟨⟩
theorem tw6571988036636768241 : True:=⟨⟩
theorem tw6607641986808593131 : True:=⟨⟩
theorem tw6619280759884426169 : True:=⟨⟩
theorem tw6623790815702557814 : True:=⟨⟩
theorem tw6635682513818156850 : True:=⟨⟩
theorem tw6645572526969364368 : True:=⟨⟩
theorem tw6650411472708811357 : True:=⟨⟩
theorem tw6662955896424010343 : True:=⟨⟩
theorem tw6672429689288603634 : True:=⟨⟩
theorem tw6673304443653669936 : True:=⟨⟩
theorem tw6682726064179360756 : True:=⟨⟩
theorem tw6682901249568744912 : True:=⟨⟩
theorem tw6689193202080460323 : True:=⟨⟩
theorem tw6693245071539713655 : True:=⟨⟩
theorem tw6701942469376846932 : True:=⟨⟩
theorem tw6708260581695776052 : True:=⟨⟩
theorem tw6735403268663337848 : True:=⟨⟩
theorem tw673978453455394016 : True:=⟨⟩
theorem tw674368007462507341 : True:=⟨⟩
theorem tw6744992831848644860 : True:=⟨⟩
theorem tw6771198788303376869 : True:=⟨⟩
theorem tw6774001230575259104 : True:=⟨⟩
theorem tw6784826817285278337 : True:=⟨⟩
theorem tw6785801628434557253 : True:=⟨⟩
theorem tw6815638905408108981 : True:=⟨⟩
theorem tw6833828976419466141 : True:=⟨⟩
theorem tw6864678252472100548 : True:=⟨⟩
theorem tw686822162719920612 : True:=⟨⟩
theorem tw6874568929994528995 : True:=⟨⟩
theorem tw6881889840146779085 : True:=⟨⟩
theorem tw6901314087943123397 : True:=⟨⟩
theorem tw691068226993640517 : True:=⟨⟩
theorem tw6925268370280681516 : True:=⟨⟩
theorem tw6935301665147670800 : True:=⟨⟩
theorem tw6969094214815507727 : True:=⟨⟩
theorem tw6994131213880055965 : True:=⟨⟩
theorem tw7012315492394385310 : True:=⟨⟩
theorem tw7012474994857587636 : True:=⟨⟩
theorem tw7026455919125256568 : True:=⟨⟩
theorem tw7027624227392807567 : True:=⟨⟩
theorem tw7092401769187542978 : True:=⟨⟩
theorem tw7106214190088750935 : True:=⟨⟩
theorem tw7126926061869103482 : True:=⟨⟩
theorem tw7130434244552317821 : True:=⟨⟩
theorem tw7132916852375953359 : True:=⟨⟩
theorem tw7148049731436039181 : True:=⟨⟩
theorem tw7158567631584708356 : True:=⟨⟩
theorem tw7166726512009294073 : True:=⟨⟩
theorem tw7208663917490573162 : True:=⟨⟩
theorem tw7216013107047194900 : True:=⟨⟩
theorem tw722014294731339262 : True:=⟨⟩
theorem tw723931300711427011 : True:=⟨⟩
theorem tw7259018151235852774 : True:=⟨⟩
theorem tw727103852937512077 : True:=⟨⟩
theorem tw7302159676992022249 : True:=⟨⟩
theorem tw7317976245015961107 : True:=⟨⟩
theorem tw7319150009759202008 : True:=⟨⟩
theorem tw7344480806033791015 : True:=⟨⟩
theorem tw7359312810227752784 : True:=⟨⟩
theorem tw7368356104478950651 : True:=⟨⟩
theorem tw7384255171100271318 : True:=⟨⟩
theorem tw7406058169178067307 : True:=⟨⟩
theorem tw7412501687628234653 : True:=⟨⟩
theorem tw7427969618950524480 : True:=⟨⟩
theorem tw7430980874502372276 : True:=⟨⟩
theorem tw749354681003289226 : True:=⟨⟩
theorem tw7510618085367466116 : True:=⟨⟩
theorem tw754631529968587380 : True:=⟨⟩
theorem tw7591579040125658927 : True:=⟨⟩
theorem tw7595863707714295418 : True:=⟨⟩
theorem tw7597004111258677299 : True:=⟨⟩
theorem tw7607483631253018415 : True:=⟨⟩
theorem tw760923235755621074 : True:=⟨⟩
theorem tw761501788967662684 : True:=⟨⟩
theorem tw7615627005509672199 : True:=⟨⟩
theorem tw7646289825596992432 : True:=⟨⟩
theorem tw7670819220783286056 : True:=⟨⟩
theorem tw7681931670651155468 : True:=⟨⟩
theorem tw7694590087837840733 : True:=⟨⟩
theorem tw7696516946764379358 : True:=⟨⟩
theorem tw770915807641127148 : True:=⟨⟩
theorem tw7720370175073077094 : True:=⟨⟩
theorem tw7720806313491999782 : True:=⟨⟩
theorem tw7724143691512322205 : True:=⟨⟩
theorem tw773452478756864936 : True:=⟨⟩
theorem tw773560721678128792 : True:=⟨⟩
theorem tw7752076683236928676 : True:=⟨⟩
theorem tw7773513503347869086 : True:=⟨⟩
theorem tw7791727279541987075 : True:=⟨⟩
theorem tw7793311135253176492 : True:=⟨⟩
theorem tw7803279403029805090 : True:=⟨⟩
theorem tw7810352339437469452 : True:=⟨⟩
theorem tw7839584717028790503 : True:=⟨⟩
theorem tw7850636316708594438 : True:=⟨⟩
theorem tw7885200308792917479 : True:=⟨⟩
theorem tw7899557305512382764 : True:=⟨⟩
theorem tw7915002338018982848 : True:=⟨⟩
theorem tw7936216244976139311 : True:=⟨⟩
theorem tw7969234814452011520 : True:=⟨⟩
theorem tw7982128751884309826 : True:=⟨⟩
theorem tw7982350377196189368 : True:=⟨⟩
theorem tw7988234720936868931 : True:=⟨⟩
theorem tw8003459606479862641 : True:=⟨⟩
theorem tw8005999514238012453 : True:=⟨⟩
theorem tw8062950077070278809 : True:=⟨⟩
theorem tw80632236953677444 : True:=⟨⟩
theorem tw8065552776433228192 : True:=⟨⟩
theorem tw8101869384798411209 : True:=⟨⟩
theorem tw8114608299999138132 : True:=⟨⟩
theorem tw8130917016692686967 : True:=⟨⟩
theorem tw8143920662881257259 : True:=⟨⟩
theorem tw8168134203777566252 : True:=⟨⟩
theorem tw8172584111658718840 : True:=⟨⟩
theorem tw8228697608345806260 : True:=⟨⟩
theorem tw8241438554445927906 : True:=⟨⟩
theorem tw8260060207583610697 : True:=⟨⟩
theorem tw8266663874753678462 : True:=⟨⟩
theorem tw8272259585024697178 : True:=⟨⟩
theorem tw8373359457080378484 : True:=⟨⟩
theorem tw8380241488705282078 : True:=⟨⟩
theorem tw8395695002910277495 : True:=⟨⟩
theorem tw8398288727934072680 : True:=⟨⟩
theorem tw8402622814083030458 : True:=⟨⟩
theorem tw8405904055247213705 : True:=⟨⟩
theorem tw8414938443973515666 : True:=⟨⟩
theorem tw8431841542962833317 : True:=⟨⟩
theorem tw8448665750119916661 : True:=⟨⟩
theorem tw845119662178706930 : True:=⟨⟩
theorem tw8473916710563348307 : True:=⟨⟩
theorem tw8476528659448471870 : True:=⟨⟩
theorem tw8478737883979826896 : True:=⟨⟩
theorem tw8479882784913375351 : True:=⟨⟩
theorem tw8518843907430409430 : True:=⟨⟩
theorem tw8536703526575759990 : True:=⟨⟩
theorem tw8539769434431516767 : True:=⟨⟩
theorem tw8576357531985826289 : True:=⟨⟩
theorem tw8589079375083450498 : True:=⟨⟩
theorem tw8600809894047039142 : True:=⟨⟩
theorem tw8611509894435429183 : True:=⟨⟩
theorem tw8618234116864186798 : True:=⟨⟩
theorem tw8664934517251417028 : True:=⟨⟩
theorem tw8729197302051746270 : True:=⟨⟩
theorem tw8736339830611414554 : True:=⟨⟩
theorem tw8744538898472043634 : True:=⟨⟩
theorem tw8747918463445976265 : True:=⟨⟩
theorem tw8750840741424825714 : True:=⟨⟩
theorem tw8751312086559852287 : True:=⟨⟩
theorem tw8755309081831790048 : True:=⟨⟩
theorem tw8800944669691775866 : True:=⟨⟩
theorem tw880142101438044944 : True:=⟨⟩
theorem tw88238327307223935 : True:=⟨⟩
theorem tw8824458670424883542 : True:=⟨⟩
theorem tw8826895813489441826 : True:=⟨⟩
theorem tw8868236332213357064 : True:=⟨⟩
theorem tw88727392429123225 : True:=⟨⟩
theorem tw8874646569338075104 : True:=⟨⟩
theorem tw8878554568853936950 : True:=⟨⟩
theorem tw8879370511190449310 : True:=⟨⟩
theorem tw8879785399591193355 : True:=⟨⟩
theorem tw8882618000725506657 : True:=⟨⟩
theorem tw8892410815739221741 : True:=⟨⟩
theorem tw8916642349402697880 : True:=⟨⟩
theorem tw8936825255088813515 : True:=⟨⟩
theorem tw8969100421974012508 : True:=⟨⟩
theorem tw8998480675220201783 : True:=⟨⟩
theorem tw9002717707797404447 : True:=⟨⟩
theorem tw9009111519930808898 : True:=⟨⟩
theorem tw9034427246471398916 : True:=⟨⟩
theorem tw9054496367242117693 : True:=⟨⟩
theorem tw9058168652837205258 : True:=⟨⟩
theorem tw9071208915282901041 : True:=⟨⟩
theorem tw9072087810300165076 : True:=⟨⟩
theorem tw9079475950976610164 : True:=⟨⟩
theorem tw9081349068939374931 : True:=⟨⟩
theorem tw9102203636686029110 : True:=⟨⟩
theorem tw9122473528994089452 : True:=⟨⟩
theorem tw9140185521301872374 : True:=⟨⟩
theorem tw9199330693965524449 : True:=⟨⟩
theorem tw9210684347428369247 : True:=⟨⟩
theorem tw9223189818523225967 : True:=⟨⟩
theorem tw9243455201443558506 : True:=⟨⟩
theorem tw9248997947242299166 : True:=⟨⟩
theorem tw9262810159256557639 : True:=⟨⟩
theorem tw9296150058488301481 : True:=⟨⟩
theorem tw9319906315892870339 : True:=⟨⟩
theorem tw9345505047702340499 : True:=⟨⟩
theorem tw9359133650049927359 : True:=⟨⟩
theorem tw9363637885531015454 : True:=⟨⟩
theorem tw9368395853197032552 : True:=⟨⟩
theorem tw9373436948197141227 : True:=⟨⟩
theorem tw9376557761964013220 : True:=⟨⟩
theorem tw9396309605299717565 : True:=⟨⟩
theorem tw9396937056735393765 : True:=⟨⟩
theorem tw9400006403119799746 : True:=⟨⟩
theorem tw9421970388026979745 : True:=⟨⟩
theorem tw9464385200323382191 : True:=⟨⟩
theorem tw947670736903658748 : True:=⟨⟩
theorem tw9541928660190579963 : True:=⟨⟩
theorem tw9552491295309031281 : True:=⟨⟩
theorem tw9555660030576181525 : True:=⟨⟩
theorem tw9582528576282913201 : True:=⟨⟩
theorem tw9588714441649211419 : True:=⟨⟩
theorem tw9600782127678723585 : True:=⟨⟩
theorem tw9610741771264975057 : True:=⟨⟩
theorem tw9613868757736653192 : True:=⟨⟩
theorem tw9628454101721529724 : True:=⟨⟩
theorem tw9641465201750571447 : True:=⟨⟩
theorem tw9642003510802547276 : True:=⟨⟩
theorem tw9642619360638312465 : True:=⟨⟩
theorem tw9644684015274561252 : True:=⟨⟩
theorem tw9647363127111196161 : True:=⟨⟩
theorem tw9708030529290591930 : True:=⟨⟩
theorem tw9740351118282689892 : True:=⟨⟩
theorem tw9746144100592212106 : True:=⟨⟩
theorem tw9752465685564139587 : True:=⟨⟩
theorem tw9766163750592466014 : True:=⟨⟩
theorem tw9771992429563209021 : True:=⟨⟩
theorem tw9864423808074592749 : True:=⟨⟩
theorem tw986846505272678891 : True:=⟨⟩
theorem tw9874774853294967817 : True:=⟨⟩
theorem tw9878018732889989663 : True:=⟨⟩
theorem tw990501949902822747 : True:=⟨⟩
theorem tw9919522728566065963 : True:=⟨⟩
theorem tw9934272143934246410 : True:=⟨⟩
theorem tw993652895229991842 : True:=⟨⟩
theorem tw9940172456612298046 : True:=⟨⟩
theorem tw9957006087617379002 : True:=⟨⟩
theorem tw9981414209071210677 : True:=⟨⟩
theorem tw9999274081190353817 : True:=⟨⟩
end Mine.hx08
set_option Elab.async true
namespace Mine
theorem all_mem {α : Type} {l : List α} {p : α → Bool} (h : l.all p = true) : ∀ x ∈ l, p x = true := List.all_eq_true.mp h
theorem hx08 : PySem.Challenge.rw_ui0504_08.Holds := by
  w_on; o_law; k_head; (case hw => w_witness2)
  have tab : ∀ P : Params, TabOk (hx08.heap_1_39 P) G := fun P => ⟨by kernel_rfl, all_mem (p := fun q : Nat × CI => clsOk (hx08.heap_1_39 P) q.1 q.2) (by kernel_rfl), all_mem (p := fun q : Nat × FI => fnOk (hx08.heap_1_39 P) q.1 q.2) (by kernel_rfl), all_mem (p := fun q : Nat × List AV => topOk (hx08.heap_1_39 P) q.1 q.2) (by kernel_rfl)⟩
  k_fill
  intro w s₀ s₁ mg mb G' y fa o pm cd doc dV kV ho hd hcd hD hmg hg args vals as hpre hlay hrd hwl hlo
  have KX := kIn_of y
  refine Ground.open G' ?_
  intro T B D TE TW
  wrow_args hpre hlay hrd hwl hlo
  rename_i ns _ _ _ _ _ _ _ L _ _ _ _ wl _ _ _ hlen _
  clear hd hcd hD B D TE TW
  have hfa : fa = lawAt := by
    have h1 := mg_of KX T.g (show nsIn (hx08.heap_1_39 w.params) mainGlobals (Str.ofString "law") = some (some (.ref lawAt)) by kernel_rfl)
    have h2 := hmg.symm.trans h1
    injection h2 with h2
    injection h2
  subst hfa
  have hsys : Live s₁.heap sysModules := by
    obtain ⟨mm, h, _⟩ := (T.seer (by kernel_rfl)).mods
    exact live_ns h
  have ok : Ok ⟨PySem.Challenge.rw_ui0504_08.row.prog, w, hx08.heap_1_39 w.params, s₁.heap, G⟩ := Ok.of KX T.nolimit T.g T.b T.builtins hsys (tab _)
  obtain ⟨_, T', he, rfl⟩ := law08 ok rfl (d := 10) (ns := ns) (by omega)
  refine law_call (c := ⟨PySem.Challenge.rw_ui0504_08.row.prog, w, hx08.heap_1_39 w.params, s₁.heap, G⟩) rfl wl he ?_ fun h' t' kp => GoodW.toG ?_
  · exact ⟨by show 1 + claimMargin + 4 * 27 < 900; unfold claimMargin; omega, by show 4 + 20 * 27 < 9000; omega, rfl⟩
  · refine ⟨.inl ⟨.bool true, .bool true, [], rfl, ?_, .bool true, ?_, ?_⟩, kp, rfl, hg⟩
    · intro cls; rfl
    · kernel_rfl
    · exact fun _ => ⟨.nil, fun _ ha => nomatch ha⟩
end Mine
end
theorem PySem.Challenge.cw_ui0504_08_holds : PySem.Challenge.rw_ui0504_08.Holds :=
  Mine.hx08

