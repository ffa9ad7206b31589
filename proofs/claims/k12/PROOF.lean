import PyProof.Rows.All
import Wide.All
import OpenK.AllK
import Wide.FinOn
import HandS.ForMost
import HandS.ForExc
import KE.KDictKeyed
import KE.KDictWalk
import HandS.Star
import HandS.Deep
import HandS.SetKeys
import HandS.IsInst
import HandS.DictComp
import HandS.Strs
import HandS.OwnEq
import HandS.Property
import HandS.TupAny
import HandS.TupMul
import HandS.Text
import KE.SortData
import HandS.WordsDict
import HandS.CallSlots
import KE.GoesMore
import KE.GoesEnum
import HandS.Comp
import HandS.Set
import HandS.SetFor
import HandS.SetTxt0
import KE.KIndexOf
import HandS.List
import HandS.ExcInit
import HandS.ExcField
import HandS.TryOnly
import HandS.TryMany
import KE.KExcSuper
import HandS.CallRecv
import HandS.Head0
import HandS.Head1
import HandS.Head2
import HandS.HeadEnd
import HandS.HeadHook1
import HandS.HeadHook2
import HandS.Codes
import PySem.Challenge.RW_kindnumber_k12_whole_texts
set_option autoImplicit true
set_option Elab.async false
set_option linter.all false
set_option maxRecDepth 100000
set_option maxHeartbeats 200000
/-! A plain store of values for the program's data, and how it stands in the abstract heap. -/
namespace KN
open PySem PySem.Spec PyProof.Rows L2
/-- values: tuples by value; lists, dicts, instances by their number in the store; the script by value -/
inductive DV where
  | non | bl (b : Bool) | int (i : Int) | str (x : Str) | tup (l : List DV) | ref (n : Nat) | scr (l : List Int)
inductive DO where
  | lst (l : List DV)
  | dct (lk : Bool) (kvs : List (DV × DV))
  | ins (c : Str) (fs : List (Str × DV))
abbrev DS := List DO
inductive DR (α : Type) where
  | ok (a : α) (s : DS)
  | exc (c : Str) (fs : List (Str × DV)) (s : DS)
  | bad
abbrev DM (α : Type) := DS → DR α
def DR.bind {α β : Type} (r : DR α) (k : α → DM β) : DR β :=
  match r with
  | .ok a s => k a s
  | .exc c fs s => .exc c fs s
  | .bad => .bad
theorem bind_ok {α β : Type} (a : α) (s : DS) (k : α → DM β) : (DR.ok a s).bind k = k a s := rfl
theorem bind_exc {α β : Type} (c : Str) (fs : List (Str × DV)) (s : DS) (k : α → DM β) : (DR.exc c fs s : DR α).bind k = .exc c fs s := rfl
theorem bind_bad {α β : Type} (k : α → DM β) : (DR.bad : DR α).bind k = .bad := rfl
mutual
def DV.beq : DV → DV → Bool
  | .non, .non => true
  | .bl a, .bl b => a == b
  | .int a, .int b => decide (a = b)
  | .str a, .str b => decide (a = b)
  | .tup a, .tup b => DV.beqs a b
  | .ref a, .ref b => decide (a = b)
  | .scr a, .scr b => decide (a = b)
  | _, _ => false
def DV.beqs : List DV → List DV → Bool
  | [], [] => true
  | a :: as, b :: bs => DV.beq a b && DV.beqs as bs
  | _, _ => false
end
mutual
theorem DV.beq_self : ∀ a : DV, DV.beq a a = true
  | .non => rfl
  | .bl a => by simp [DV.beq]
  | .int a => by simp [DV.beq]
  | .str a => by simp [DV.beq]
  | .tup a => by rw [DV.beq]; exact DV.beqs_self a
  | .ref a => by simp [DV.beq]
  | .scr a => by simp [DV.beq]
theorem DV.beqs_self : ∀ a : List DV, DV.beqs a a = true
  | [] => rfl
  | a :: as => by rw [DV.beqs, DV.beq_self a, DV.beqs_self as]; rfl
end
mutual
theorem DV.of_beq : ∀ a b : DV, DV.beq a b = true → a = b
  | .non, b, h => by cases b <;> first | rfl | simp [DV.beq] at h
  | .bl a, b, h => by cases b <;> simp [DV.beq] at h; rw [h]
  | .int a, b, h => by cases b <;> simp [DV.beq] at h; rw [h]
  | .str a, b, h => by cases b <;> simp [DV.beq] at h; rw [h]
  | .tup a, b, h => by
    cases b with
    | tup b => rw [DV.beq] at h; rw [DV.of_beqs a b h]
    | _ => simp [DV.beq] at h
  | .ref a, b, h => by cases b <;> simp [DV.beq] at h; rw [h]
  | .scr a, b, h => by cases b <;> simp [DV.beq] at h; rw [h]
theorem DV.of_beqs : ∀ a b : List DV, DV.beqs a b = true → a = b
  | [], b, h => by cases b <;> first | rfl | simp [DV.beqs] at h
  | a :: as, b, h => by
    cases b with
    | nil => simp [DV.beqs] at h
    | cons b bs =>
      rw [DV.beqs, Bool.and_eq_true] at h
      rw [DV.of_beq a b h.1, DV.of_beqs as bs h.2]
end
instance : DecidableEq DV := fun a b => if h : DV.beq a b = true then .isTrue (DV.of_beq a b h) else .isFalse fun e => h (e ▸ DV.beq_self a)
/-! ### how values stand -/
/-- a list that nobody writes: locked, or of the written part -/
def SqS (K : PySem.W.Frag) (H : Hp) (a : Addr) (xs : List V) : Prop :=
  (∃ o, H a = some (.frz o (.lst xs))) ∨
    ∃ (o : Obj) (its : Array Value) (n : Nat), K.lookup a = some o ∧ o.cls = .type "list" ∧ o.dict = none ∧ o.data = .seq its n ∧ its.size ≤ sizeLine ∧ Vals xs its.toList
theorem SqS.sql {K : PySem.W.Frag} {H : Hp} {a : Addr} {xs : List V} (h : SqS K H a xs) : SqL K H a xs := h.imp .inr id
/-- a tuple: locked, or of the written part; it has no dict -/
def SqD (K : PySem.W.Frag) (H : Hp) (a : Addr) (xs : List V) : Prop :=
  (∃ o, H a = some (.frz o (.tup xs)) ∧ o.dict = none) ∨
    ∃ (o : Obj) (its : Array Value) (n : Nat), K.lookup a = some o ∧ o.cls = .type "tuple" ∧ o.dict = none ∧ o.data = .seq its n ∧ its.size ≤ sizeLine ∧ Vals xs its.toList
theorem SqD.sqt {K : PySem.W.Frag} {H : Hp} {a : Addr} {xs : List V} (h : SqD K H a xs) : SqT K H a xs := by
  rcases h with ⟨o, h, _⟩ | ⟨o, its, n, h1, h2, _, h3, h4, h5⟩
  · exact .inl (.inr ⟨o, h⟩)
  · exact .inr ⟨o, its, n, h1, h2, h3, h4, h5⟩
section
variable (K : PySem.W.Frag) (ρ : List Addr) (H : Hp)
mutual
def RepV : DV → V → Prop
  | .non, v => v = .non
  | .bl b, v => v = .bl b
  | .int i, v => v = .int i
  | .str x, v => v = .str x
  | .tup l, v => ∃ a vs, v = .ref a ∧ SqD K H a vs ∧ RepVs l vs
  | .ref n, v => ∃ a, ρ[n]? = some a ∧ v = .ref a
  | .scr l, v => ∃ a, v = .ref a ∧ SqS K H a (l.map V.int)
def RepVs : List DV → List V → Prop
  | [], vs => vs = []
  | d :: ds, vs => ∃ v r, vs = v :: r ∧ RepV d v ∧ RepVs ds r
end
end
/-- what a step keeps: the numbers, the tuples, what is locked -/
structure Ext (ρ : List Addr) (H : Hp) (ρ' : List Addr) (H' : Hp) : Prop where
  pre : ∀ (n : Nat) (a : Addr), ρ[n]? = some a → ρ'[n]? = some a
  tups : ∀ b xs, H b = some (.tup xs) → H' b = some (.tup xs)
  frzs : ∀ b o u, H b = some (.frz o u) → H' b = some (.frz o u)
  xds : ∀ b us, H b = some (.xd us) → H' b = some (.xd us)
/-- what values need of that -/
structure ExtV (ρ : List Addr) (H : Hp) (ρ' : List Addr) (H' : Hp) : Prop where
  pre : ∀ (n : Nat) (a : Addr), ρ[n]? = some a → ρ'[n]? = some a
  tups : ∀ b xs, H b = some (.tup xs) → H' b = some (.tup xs)
  frzs : ∀ b o xs, H b = some (.frz o (.tup xs)) → H' b = some (.frz o (.tup xs))
  frzl : ∀ b o xs, H b = some (.frz o (.lst xs)) → H' b = some (.frz o (.lst xs))
theorem Ext.toV {ρ ρ1 : List Addr} {H H1 : Hp} (x : Ext ρ H ρ1 H1) : ExtV ρ H ρ1 H1 := ⟨x.pre, x.tups, fun b o xs => x.frzs b o _, fun b o xs => x.frzs b o _⟩
instance instExtV {ρ ρ1 : List Addr} {H H1 : Hp} : Coe (Ext ρ H ρ1 H1) (ExtV ρ H ρ1 H1) := ⟨Ext.toV⟩
theorem Ext.refl (ρ : List Addr) (H : Hp) : Ext ρ H ρ H := ⟨fun _ _ h => h, fun _ _ h => h, fun _ _ _ h => h, fun _ _ h => h⟩
theorem Ext.trans {ρ ρ1 ρ2 : List Addr} {H H1 H2 : Hp} (a : Ext ρ H ρ1 H1) (b : Ext ρ1 H1 ρ2 H2) : Ext ρ H ρ2 H2 :=
  ⟨fun n x h => b.pre n x (a.pre n x h), fun x y h => b.tups x y (a.tups x y h), fun x y z h => b.frzs x y z (a.frzs x y z h), fun x y h => b.xds x y (a.xds x y h)⟩
theorem SqT_ext {K : PySem.W.Frag} {H H' : Hp} {a : Addr} {xs : List V} (t : ∀ b xs, H b = some (.tup xs) → H' b = some (.tup xs)) (f : ∀ b o xs, H b = some (.frz o (.tup xs)) → H' b = some (.frz o (.tup xs))) (h : SqT K H a xs) : SqT K H' a xs := by
  rcases h with (h | ⟨o, h⟩) | h
  · exact .inl (.inl (t _ _ h))
  · exact .inl (.inr ⟨o, f _ _ _ h⟩)
  · exact .inr h
theorem SqD_ext {K : PySem.W.Frag} {H H' : Hp} {a : Addr} {xs : List V} (f : ∀ b o xs, H b = some (.frz o (.tup xs)) → H' b = some (.frz o (.tup xs))) (h : SqD K H a xs) : SqD K H' a xs :=
  h.imp (fun ⟨o, e, d⟩ => ⟨o, f _ _ _ e, d⟩) id
section
variable {K : PySem.W.Frag} {ρ ρ' : List Addr} {H H' : Hp}
mutual
theorem RepV.ext (x : ExtV ρ H ρ' H') : ∀ (d : DV) (v : V), RepV K ρ H d v → RepV K ρ' H' d v
  | .non, _, h => by simpa [RepV] using h
  | .bl _, _, h => by simpa [RepV] using h
  | .int _, _, h => by simpa [RepV] using h
  | .str _, _, h => by simpa [RepV] using h
  | .tup l, v, h => by
    rw [RepV] at h ⊢
    obtain ⟨a, vs, e, s, r⟩ := h
    exact ⟨a, vs, e, SqD_ext x.frzs s, RepVs.ext x l vs r⟩
  | .ref n, v, h => by
    rw [RepV] at h ⊢
    obtain ⟨a, e, r⟩ := h
    exact ⟨a, x.pre n a e, r⟩
  | .scr l, v, h => by
    rw [RepV] at h ⊢
    obtain ⟨a, e, s⟩ := h
    exact ⟨a, e, s.imp (fun ⟨o, q⟩ => ⟨o, x.frzl _ _ _ q⟩) id⟩
theorem RepVs.ext (x : ExtV ρ H ρ' H') : ∀ (ds : List DV) (vs : List V), RepVs K ρ H ds vs → RepVs K ρ' H' ds vs
  | [], _, h => by simpa [RepVs] using h
  | d :: ds, vs, h => by
    rw [RepVs] at h ⊢
    obtain ⟨v, r, e, h1, h2⟩ := h
    exact ⟨v, r, e, RepV.ext x d v h1, RepVs.ext x ds r h2⟩
end
end
section
variable {K : PySem.W.Frag} {ρ : List Addr} {H : Hp}
theorem RepVs.len : ∀ {ds : List DV} {vs : List V}, RepVs K ρ H ds vs → ds.length = vs.length
  | [], _, h => by rw [RepVs] at h; rw [h]; rfl
  | d :: ds, vs, h => by
    rw [RepVs] at h
    obtain ⟨v, r, e, _, h2⟩ := h
    rw [e, List.length_cons, List.length_cons, RepVs.len h2]
theorem RepVs.nil : RepVs K ρ H [] [] := by rw [RepVs]
theorem RepVs.cons {d : DV} {v : V} {ds : List DV} {vs : List V} (a : RepV K ρ H d v) (b : RepVs K ρ H ds vs) : RepVs K ρ H (d :: ds) (v :: vs) := by
  rw [RepVs]; exact ⟨v, vs, rfl, a, b⟩
theorem RepVs.get : ∀ {ds : List DV} {vs : List V} {i : Nat} {d : DV}, RepVs K ρ H ds vs → ds[i]? = some d → ∃ v, vs[i]? = some v ∧ RepV K ρ H d v
  | [], _, _, _, _, e => by simp at e
  | d :: ds, vs, 0, x, h, e => by
    rw [RepVs] at h
    obtain ⟨v, r, rfl, h1, h2⟩ := h
    simp at e
    subst e
    exact ⟨v, rfl, h1⟩
  | d :: ds, vs, i + 1, x, h, e => by
    rw [RepVs] at h
    obtain ⟨v, r, rfl, h1, h2⟩ := h
    simpa using RepVs.get h2 (by simpa using e)
theorem RepVs.append : ∀ {ds es : List DV} {vs us : List V}, RepVs K ρ H ds vs → RepVs K ρ H es us → RepVs K ρ H (ds ++ es) (vs ++ us)
  | [], _, _, _, h, k => by rw [RepVs] at h; subst h; exact k
  | d :: ds, es, vs, us, h, k => by
    rw [RepVs] at h
    obtain ⟨v, r, rfl, h1, h2⟩ := h
    exact .cons h1 (RepVs.append h2 k)
theorem RepVs.take : ∀ {ds : List DV} {vs : List V} (n : Nat), RepVs K ρ H ds vs → RepVs K ρ H (ds.take n) (vs.take n)
  | _, _, 0, _ => by simpa using RepVs.nil
  | [], _, n + 1, h => by rw [RepVs] at h; subst h; simpa using RepVs.nil
  | d :: ds, vs, n + 1, h => by
    rw [RepVs] at h
    obtain ⟨v, r, rfl, h1, h2⟩ := h
    exact .cons h1 (RepVs.take n h2)
theorem RepVs.drop : ∀ {ds : List DV} {vs : List V} (n : Nat), RepVs K ρ H ds vs → RepVs K ρ H (ds.drop n) (vs.drop n)
  | _, _, 0, h => h
  | [], _, n + 1, h => by rw [RepVs] at h; subst h; simpa using RepVs.nil
  | d :: ds, vs, n + 1, h => by
    rw [RepVs] at h
    obtain ⟨v, r, rfl, h1, h2⟩ := h
    exact RepVs.drop n h2
theorem RepVs.set {d : DV} {v : V} (k : RepV K ρ H d v) : ∀ {ds : List DV} {vs : List V} (n : Nat), RepVs K ρ H ds vs → RepVs K ρ H (ds.set n d) (vs.set n v)
  | [], _, _, h => by rw [RepVs] at h; subst h; simpa using RepVs.nil
  | e :: ds, vs, 0, h => by
    rw [RepVs] at h
    obtain ⟨w, r, rfl, h1, h2⟩ := h
    exact .cons k h2
  | e :: ds, vs, n + 1, h => by
    rw [RepVs] at h
    obtain ⟨w, r, rfl, h1, h2⟩ := h
    exact .cons h1 (RepVs.set k n h2)
theorem RepVs.dropLast {ds : List DV} {vs : List V} (h : RepVs K ρ H ds vs) : RepVs K ρ H ds.dropLast vs.dropLast := by
  rw [List.dropLast_eq_take, List.dropLast_eq_take, h.len]; exact h.take _
theorem RepVs.eraseIdx : ∀ {ds : List DV} {vs : List V} (n : Nat), RepVs K ρ H ds vs → RepVs K ρ H (ds.eraseIdx n) (vs.eraseIdx n)
  | [], _, _, h => by rw [RepVs] at h; subst h; simpa using RepVs.nil
  | e :: ds, vs, 0, h => by
    rw [RepVs] at h
    obtain ⟨w, r, rfl, h1, h2⟩ := h
    exact h2
  | e :: ds, vs, n + 1, h => by
    rw [RepVs] at h
    obtain ⟨w, r, rfl, h1, h2⟩ := h
    exact .cons h1 (RepVs.eraseIdx n h2)
theorem RepVs.replicate (k : Nat) {ds : List DV} {vs : List V} (h : RepVs K ρ H ds vs) : RepVs K ρ H (List.replicate k ds).flatten (List.replicate k vs).flatten := by
  induction k with
  | zero => simpa using RepVs.nil
  | succ k ih => rw [List.replicate_succ, List.replicate_succ, List.flatten_cons, List.flatten_cons]; exact h.append ih
end
/-! ### dicts -/
def keyR : DV → Key → Prop
  | .int i, .inl j => i = j
  | .str x, .inr y => x = y
  | _, _ => False
mutual
def toNK : DV → Option NestedKey
  | .non => some .none
  | .int i => some (.num i)
  | .str x => some (.text x)
  | .tup l => (toNKs l).map .tup
  | _ => none
def toNKs : List DV → Option (List NestedKey)
  | [] => some []
  | d :: ds => match toNK d, toNKs ds with
    | some k, some ks => some (k :: ks)
    | _, _ => none
end
def isTup : DV → Bool
  | .tup _ => true
  | _ => false
/-- a dict whose keys are tuples of ints, texts, None, tuples of such: its entries -/
def rawN (P : Program) (w : World) (a : Addr) (ka : List (NestedKey × Addr × V)) (h : Heap) : Prop :=
  ka.length ≤ sizeLine ∧ (a == sysModules) = false ∧ (∀ x ∈ ka, x.1.depth ≤ 8) ∧ ∃ xs : List (NestedKey × Addr × Value), Paired (fun p q => p.1 = q.1 ∧ p.2.1 = q.2.1 ∧ RelV p.2.2 q.2.2) ka xs ∧
    ∃ o es ep, h.get? a = some o ∧ o.ExactDict ∧ o.data = .dict es ep ∧ es.toList = xs.map (entryOfKey (nestedKind P w)) ∧ (xs.map (·.1)).Nodup
def dN (P : Program) (w : World) (a : Addr) (ka : List (NestedKey × Addr × V)) : HO := .ext (rawN P w a ka)
section
variable (P : Program) (w : World) (K : PySem.W.Frag) (mg : Str → Option Value) (ρ : List Addr) (H : Hp)
def RepKs (kvs : List (DV × DV)) (ks : List (Key × V)) : Prop := Paired (fun p q => keyR p.1 q.1 ∧ RepV K ρ H p.2 q.2) kvs ks
def RepNs (kvs : List (DV × DV)) (ka : List (NestedKey × Addr × V)) : Prop := Paired (fun p q => isTup p.1 = true ∧ toNK p.1 = some q.1 ∧ RepV K ρ H p.1 (.ref q.2.1) ∧ RepV K ρ H p.2 q.2.2) kvs ka
def RepD (a : Addr) (kvs : List (DV × DV)) (u : HO) : Prop := (∃ ks, u = .dK ks ∧ RepKs K ρ H kvs ks) ∨ (kvs ≠ [] ∧ ∃ ka, u = dN P w a ka ∧ RepNs K ρ H kvs ka)
def RepFs (fs : List (Str × DV)) (us : List (Str × V)) : Prop := Paired (fun p q => p.1 = q.1 ∧ RepV K ρ H p.2 q.2) fs us
def ObjR (a : Addr) : DO → Prop
  | .lst l => ∃ vs, H a = some (.lst vs) ∧ RepVs K ρ H l vs
  | .dct false kvs => ∃ u, H a = some u ∧ RepD P w K ρ H a kvs u
  | .dct true kvs => ∃ o u, H a = some (.frz o u) ∧ RepD P w K ρ H a kvs u
  | .ins c fs => ∃ C dx us, mg c = some (.ref C) ∧ H a = some (.ins C dx us) ∧ RepFs K ρ H fs us
structure HRel (S : DS) : Prop where
  len : ρ.length = S.length
  nd : ρ.Nodup
  obj : ∀ (n : Nat) a o, ρ[n]? = some a → S[n]? = some o → ObjR P w K mg ρ H a o
structure GRel (Γ : List (Option DV)) (σ : L2.St) : Prop where
  len : Γ.length = σ.length
  at_ : ∀ (i : Nat) d, Γ[i]? = some (some d) → ∃ v, σ[i]? = some (some v) ∧ RepV K ρ H d v
end
theorem Paired.imp' {α β : Type} {F G : α → β → Prop} : ∀ {l₁ : List α} {l₂ : List β}, Paired F l₁ l₂ → (∀ a b, F a b → G a b) → Paired G l₁ l₂
  | _, _, .nil, _ => .nil
  | _, _, .cons r t, f => .cons (f _ _ r) (Paired.imp' t f)
section
variable {P : Program} {w : World} {K : PySem.W.Frag} {mg : Str → Option Value} {ρ ρ' : List Addr} {H H' : Hp}
theorem RepKs.ext (x : ExtV ρ H ρ' H') {kvs ks} (h : RepKs K ρ H kvs ks) : RepKs K ρ' H' kvs ks := Paired.imp' h fun _ _ r => ⟨r.1, RepV.ext x _ _ r.2⟩
theorem RepNs.ext (x : ExtV ρ H ρ' H') {kvs ka} (h : RepNs K ρ H kvs ka) : RepNs K ρ' H' kvs ka := Paired.imp' h fun _ _ r => ⟨r.1, r.2.1, RepV.ext x _ _ r.2.2.1, RepV.ext x _ _ r.2.2.2⟩
theorem RepFs.ext (x : ExtV ρ H ρ' H') {kvs ks} (h : RepFs K ρ H kvs ks) : RepFs K ρ' H' kvs ks := Paired.imp' h fun _ _ r => ⟨r.1, RepV.ext x _ _ r.2⟩
theorem RepD.ext (x : ExtV ρ H ρ' H') {a kvs u} (h : RepD P w K ρ H a kvs u) : RepD P w K ρ' H' a kvs u := by
  rcases h with ⟨ks, e, r⟩ | ⟨n, ka, e, r⟩
  · exact .inl ⟨ks, e, r.ext x⟩
  · exact .inr ⟨n, ka, e, r.ext x⟩
theorem ObjR.ext (x : ExtV ρ H ρ' H') {a : Addr} (ha : H' a = H a) : ∀ {o : DO}, ObjR P w K mg ρ H a o → ObjR P w K mg ρ' H' a o
  | .lst l, h => by
    obtain ⟨vs, e, r⟩ := h
    exact ⟨vs, ha.trans e, RepVs.ext x _ _ r⟩
  | .dct false kvs, h => by
    obtain ⟨u, e, r⟩ := h
    exact ⟨u, ha.trans e, r.ext x⟩
  | .dct true kvs, h => by
    obtain ⟨o, u, e, r⟩ := h
    exact ⟨o, u, ha.trans e, r.ext x⟩
  | .ins c fs, h => by
    obtain ⟨C, dx, us, m, e, r⟩ := h
    exact ⟨C, dx, us, m, ha.trans e, r.ext x⟩
theorem ObjR.there {a : Addr} : ∀ {o : DO}, ObjR P w K mg ρ H a o → H a ≠ none
  | .lst l, ⟨vs, e, _⟩ => by rw [e]; simp
  | .dct false kvs, ⟨u, e, _⟩ => by rw [e]; simp
  | .dct true kvs, ⟨o, u, e, _⟩ => by rw [e]; simp
  | .ins c fs, ⟨C, dx, us, _, e, _⟩ => by rw [e]; simp
theorem GRel.ext (x : ExtV ρ H ρ' H') {Γ σ} (h : GRel K ρ H Γ σ) : GRel K ρ' H' Γ σ :=
  ⟨h.len, fun i d e => let ⟨v, e1, r⟩ := h.at_ i d e; ⟨v, e1, RepV.ext x _ _ r⟩⟩
theorem HRel.get {S : DS} (h : HRel P w K mg ρ H S) {n : Nat} {o : DO} (e : S[n]? = some o) : ∃ a, ρ[n]? = some a ∧ ObjR P w K mg ρ H a o := by
  obtain ⟨hl, _⟩ := List.getElem?_eq_some_iff.mp e
  rw [← h.len] at hl
  exact ⟨ρ[n], by simp [hl], h.obj n _ o (by simp [hl]) e⟩
theorem HRel.there {S : DS} (h : HRel P w K mg ρ H S) {n : Nat} {a : Addr} (e : ρ[n]? = some a) : H a ≠ none := by
  obtain ⟨hl, _⟩ := List.getElem?_eq_some_iff.mp e
  rw [h.len] at hl
  exact (h.obj n a S[n] e (by simp [hl])).there
theorem HRel.notin {S : DS} (h : HRel P w K mg ρ H S) {p : Addr} (hp : H p = none) : p ∉ ρ := fun hm => by
  obtain ⟨n, hn⟩ := List.mem_iff_getElem?.mp hm
  exact h.there hn hp
/-- a new object -/
theorem Ext.new {u : HO} {p : Addr} (hp : H p = none) : Ext ρ H (ρ ++ [p]) (upd H p u) :=
  ⟨fun n a e => by rw [List.getElem?_append_left (List.getElem?_eq_some_iff.mp e).1]; exact e,
   fun b xs e => by rw [upd_ne (ne_of_none e hp)]; exact e, fun b o z e => by rw [upd_ne (ne_of_none e hp)]; exact e, fun b xs e => by rw [upd_ne (ne_of_none e hp)]; exact e⟩
theorem HRel.new {S : DS} (h : HRel P w K mg ρ H S) {u : HO} {o : DO} {p : Addr} (hp : H p = none) (r : ObjR P w K mg (ρ ++ [p]) (upd H p u) p o) : HRel P w K mg (ρ ++ [p]) (upd H p u) (S ++ [o]) where
  len := by simp [h.len]
  nd := by
    rw [List.nodup_append]
    refine ⟨h.nd, by simp, fun a ha b hb => ?_⟩
    rw [List.mem_singleton] at hb
    subst hb
    exact fun e => h.notin hp (e ▸ ha)
  obj := fun n a q e1 e2 => by
    by_cases hn : n < ρ.length
    · rw [List.getElem?_append_left hn] at e1
      rw [List.getElem?_append_left (by rw [← h.len]; exact hn)] at e2
      refine (h.obj n a q e1 e2).ext (Ext.new (ρ := ρ) (u := u) hp).toV ?_
      rw [upd_ne]
      exact fun e => h.there e1 (e ▸ hp)
    · have hn' : ρ.length ≤ n := Nat.le_of_not_lt hn
      rw [List.getElem?_append_right hn'] at e1
      rw [List.getElem?_append_right (by rw [← h.len]; exact hn'), ← h.len] at e2
      cases hk : n - ρ.length with
      | zero =>
        rw [hk] at e1 e2
        simp at e1 e2
        subst e1 e2
        exact r
      | succ k =>
        rw [hk] at e1
        simp at e1
/-- not a tuple, not locked: what may be written -/
def Wr : HO → Prop
  | .tup _ => False
  | .frz _ _ => False
  | .xd _ => False
  | _ => True
theorem Ext.write {u z : HO} {p : Addr} (hp : H p = some z) (hz : Wr z) : Ext ρ H ρ (upd H p u) :=
  ⟨fun _ _ e => e, fun b xs e => by
    rw [upd_ne]; exact e
    rintro rfl; rw [hp] at e; cases e; exact hz, fun b o x e => by
    rw [upd_ne]; exact e
    rintro rfl; rw [hp] at e; cases e; exact hz, fun b xs e => by
    rw [upd_ne]; exact e
    rintro rfl; rw [hp] at e; cases e; exact hz⟩
theorem HRel.write {S : DS} (h : HRel P w K mg ρ H S) {u z : HO} {o : DO} {p : Addr} {n : Nat} (hn : ρ[n]? = some p) (hp : H p = some z) (hz : Wr z) (r : ObjR P w K mg ρ (upd H p u) p o) : HRel P w K mg ρ (upd H p u) (S.set n o) where
  len := by simp [h.len]
  nd := h.nd
  obj := fun m a q e1 e2 => by
    by_cases hm : n = m
    · subst hm
      rw [hn] at e1; cases e1
      rw [List.getElem?_set_self (by have := (List.getElem?_eq_some_iff.mp hn).1; rw [h.len] at this; exact this)] at e2
      cases e2
      exact r
    · rw [List.getElem?_set_ne hm] at e2
      refine (h.obj m a q e1 e2).ext (Ext.write (ρ := ρ) (u := u) hp hz).toV ?_
      rw [upd_ne]
      rintro rfl
      refine hm ?_
      have l1 := (List.getElem?_eq_some_iff.mp hn).1
      exact ((List.getElem?_inj l1 h.nd).mp (hn.trans e1.symm))
end
end KN
set_option maxHeartbeats 200000
namespace KN
open PySem PySem.Spec PyProof.Rows L2
abbrev DG := List (Option DV)
abbrev EM := DG → DM DV
abbrev TM := DG → DM Bool
abbrev AM := DG → DM (List DV)
inductive DF where
  | nx | rt (d : DV) | bk | ct
abbrev SM := DG → DM (DF × DG)
section
variable (X : Cx) (W : WX)
abbrev XRep (ρ : List Addr) (H : Hp) (d : DV) (v : V) : Prop := RepV X.K ρ H d v
abbrev XHR (ρ : List Addr) (H : Hp) (S : DS) : Prop := HRel X.prog X.w X.K X.mg ρ H S
/-- how an exception lies: its class by its name, its fields -/
def ExcR (ρ : List Addr) (H : Hp) (c : Str) (fs : List (Str × DV)) (cls : Value) (d : Option Addr) : Prop :=
  X.mg c = some cls ∧ ((fs = [] ∧ d = none) ∨ ∃ a us, d = some a ∧ H a = some (.xd us) ∧ RepFs X.K ρ H fs us)
/-- what is wanted behind a run -/
def PostG {α : Type} (σ : L2.St) (ρ : List Addr) (H : Hp) (r : DR α) (G : α → DS → List Addr → Hp → Prop) : Prop :=
  match r with
  | .ok a S => ∀ ρ' H', Ext ρ H ρ' H' → XHR X ρ' H' S → G a S ρ' H'
  | .exc c fs S => ∀ ρ' H' cls d, Ext ρ H ρ' H' → XHR X ρ' H' S → ExcR X ρ' H' c fs cls d → W cls d σ H'
  | .bad => False
end
section
variable {X : Cx} {W : WX} {α β : Type} {σ : L2.St} {ρ ρ1 : List Addr} {H H1 : Hp}
theorem PostG.ok {a : α} {S : DS} {G : α → DS → List Addr → Hp → Prop} (h : PostG X W σ ρ H (.ok a S) G) (hr : XHR X ρ H S) : G a S ρ H := h ρ H (Ext.refl _ _) hr
theorem PostG.shift {r : DR α} {G : α → DS → List Addr → Hp → Prop} (h : PostG X W σ ρ H r G) (x : Ext ρ H ρ1 H1) : PostG X W σ ρ1 H1 r G := by
  cases r with
  | ok a S => exact fun ρ' H' y hr => h ρ' H' (x.trans y) hr
  | exc c fs S => exact fun ρ' H' cls d y hr e => h ρ' H' cls d (x.trans y) hr e
  | bad => exact h
theorem PostG.mono {r : DR α} {G G' : α → DS → List Addr → Hp → Prop} (h : PostG X W σ ρ H r G) (f : ∀ a S ρ' H', Ext ρ H ρ' H' → XHR X ρ' H' S → G a S ρ' H' → G' a S ρ' H') : PostG X W σ ρ H r G' := by
  cases r with
  | ok a S => exact fun ρ' H' y hr => f a S ρ' H' y hr (h ρ' H' y hr)
  | exc c fs S => exact h
  | bad => exact h
theorem PostG.bind {r : DR α} {k : α → DM β} {G : β → DS → List Addr → Hp → Prop} (h : PostG X W σ ρ H (r.bind k) G) :
    PostG X W σ ρ H r fun a S ρ' H' => Ext ρ H ρ' H' ∧ PostG X W σ ρ' H' (k a S) G := by
  cases r with
  | ok a S => exact fun ρ' H' x hr => ⟨x, PostG.shift h x⟩
  | exc c fs S => exact h
  | bad => exact h
/-- the reading of a run -/
def tO (X : Cx) (W : WX) (m : EM) : TE := fun σ H Q => ∃ ρ S Γ, XHR X ρ H S ∧ GRel X.K ρ H Γ σ ∧ PostG X W σ ρ H (m Γ S) fun d _ ρ' H' => ∀ v, XRep X ρ' H' d v → Q v H'
def tT (X : Cx) (W : WX) (m : TM) : TT := fun σ H Q => ∃ ρ S Γ, XHR X ρ H S ∧ GRel X.K ρ H Γ σ ∧ PostG X W σ ρ H (m Γ S) fun b _ _ H' => Q b H'
def tA (X : Cx) (W : WX) (m : AM) : TA := fun σ H Q => ∃ ρ S Γ, XHR X ρ H S ∧ GRel X.K ρ H Γ σ ∧ PostG X W σ ρ H (m Γ S) fun ds _ ρ' H' => ∀ vs, RepVs X.K ρ' H' ds vs → Q vs H'
/-- a statement's end -/
def EndG (X : Cx) (D : Ends) (r : DF × DG) (ρ : List Addr) (H : Hp) : Prop :=
  match r.1 with
  | .nx => ∀ σ, GRel X.K ρ H r.2 σ → D.nx σ H
  | .bk => ∀ σ, GRel X.K ρ H r.2 σ → D.bk σ H
  | .ct => ∀ σ, GRel X.K ρ H r.2 σ → D.ct σ H
  | .rt d => ∀ v, XRep X ρ H d v → D.rt v H
/-- an exception of a statement: whatever the slots -/
def WS (W : WX) : Prop := ∀ c d σ σ' H, W c d σ H → W c d σ' H
def tS (X : Cx) (W : WX) (m : SM) : TS := fun D σ H => ∃ ρ S Γ, XHR X ρ H S ∧ GRel X.K ρ H Γ σ ∧ PostG X W σ ρ H (m Γ S) fun r _ ρ' H' => EndG X D r ρ' H'
abbrev RE (X : Cx) (W : WX) (e : Expr) (m : EM) : Prop := PE X e (tO X W m)
abbrev RT (X : Cx) (W : WX) (e : Expr) (m : TM) : Prop := PT X e (tT X W m)
abbrev RA (X : Cx) (W : WX) (es : List Expr) (m : AM) : Prop := PA X es (tA X W m)
abbrev RS (X : Cx) (W : WX) (st : Stmt) (m : SM) : Prop := PS X st (tS X W m)
abbrev RSs (X : Cx) (W : WX) (st : List Stmt) (m : SM) : Prop := PSs X st (tS X W m)
theorem pe_imp {e : Expr} {t t' : TE} (h : PE X e t) (f : ∀ σ H Q, t' σ H Q → t σ H Q) : PE X e t' := ⟨fun pins s σ H Q I q => h.run pins s σ H Q I (f σ H Q q)⟩
theorem pt_imp {e : Expr} {t t' : TT} (h : PT X e t) (f : ∀ σ H Q, t' σ H Q → t σ H Q) : PT X e t' := ⟨fun pins s σ H Q I q => h.run pins s σ H Q I (f σ H Q q)⟩
theorem pw_imp {e : Expr} {t t' : TT} (h : PW X e t) (f : ∀ σ H Q, t' σ H Q → t σ H Q) : PW X e t' := ⟨fun wh pins s σ H Q I q => h.run wh pins s σ H Q I (f σ H Q q)⟩
theorem pa_imp {e : List Expr} {t t' : TA} (h : PA X e t) (f : ∀ σ H Q, t' σ H Q → t σ H Q) : PA X e t' := ⟨fun pos pins s σ H Q I q => h.run pos pins s σ H Q I (f σ H Q q)⟩
theorem ps_imp {e : Stmt} {t t' : TS} (h : PS X e t) (f : ∀ D σ H, t' D σ H → t D σ H) : PS X e t' := ⟨fun pins s σ H D I q => h.run pins s σ H D I (f D σ H q)⟩
theorem pss_imp {e : List Stmt} {t t' : TS} (h : PSs X e t) (f : ∀ D σ H, t' D σ H → t D σ H) : PSs X e t' := ⟨fun pins s σ H D I q => h.run pins s σ H D I (f D σ H q)⟩
theorem pe_orr {e : Expr} {t u : TE} (h : PE X e t) (k : PE X e u) : PE X e (fun σ H Q => t σ H Q ∨ u σ H Q) :=
  ⟨fun pins s σ H Q I q => q.elim (h.run pins s σ H Q I) (k.run pins s σ H Q I)⟩
theorem ps_orr {e : Stmt} {t u : TS} (h : PS X e t) (k : PS X e u) : PS X e (fun D σ H => t D σ H ∨ u D σ H) :=
  ⟨fun pins s σ H D I q => q.elim (h.run pins s σ H D I) (k.run pins s σ H D I)⟩
theorem pe_any {e : Expr} {ι : Type} {t : ι → TE} (h : ∀ i, PE X e (t i)) : PE X e (fun σ H Q => ∃ i, t i σ H Q) :=
  ⟨fun pins s σ H Q I q => q.elim fun i q => (h i).run pins s σ H Q I q⟩
/-! ### constants, names -/
def mCst (d : DV) : EM := fun _ S => .ok d S
def mVar (i : Nat) : EM := fun Γ S => match Γ[i]? with
  | some (some d) => .ok d S
  | _ => .bad
theorem re_of_const {e : Expr} {d : DV} {v : V} (h : PE X e (tC v)) (r : ∀ ρ H, XRep X ρ H d v) : RE X W e (mCst d) :=
  pe_imp h fun σ H Q ⟨ρ, S, Γ, hr, hg, q⟩ => q.ok hr v (r ρ H)
theorem re_non {j pos} : RE X W (.Constant .none j pos) (mCst .non) := re_of_const pe_non fun _ _ => by rw [XRep, RepV]
theorem re_bl {b j pos} : RE X W (.Constant (.bool b) j pos) (mCst (.bl b)) := re_of_const pe_bl fun _ _ => by rw [XRep, RepV]
theorem re_int {i j pos} : RE X W (.Constant (.int i) j pos) (mCst (.int i)) := re_of_const pe_int fun _ _ => by rw [XRep, RepV]
theorem re_str {x j pos} : RE X W (.Constant (.str x) j pos) (mCst (.str x)) := re_of_const pe_str fun _ _ => by rw [XRep, RepV]
theorem re_var {i : Nat} {x : Str} {pos : Pos} (hN : X.N[i]? = some x) (hv : Vis X.env.scope x) (hd : (x == ("__debug__" : Str)) = false) (hcd : (x == ("__classdict__" : Str)) = false) : RE X W (.Name x pos) (mVar i) := by
  refine pe_imp (pe_var hN hv hd hcd) fun σ H Q ⟨ρ, S, Γ, hr, hg, q⟩ => ?_
  unfold mVar at q
  split at q
  · rename_i d e
    obtain ⟨v, e1, r⟩ := hg.at_ i d e
    exact ⟨v, e1, q.ok hr v r⟩
  · exact q.elim
/-- a constant of the module -/
theorem re_glob {x : Str} {v : V} {d : DV} {u : Value} {pos : Pos} (hg : Gl X x) (hm : X.mg x = some u) (r : RelV v u) (hd : (x == ("__debug__" : Str)) = false) (rep : ∀ ρ H, XRep X ρ H d v) : RE X W (.Name x pos) (mCst d) :=
  re_of_const (pe_glob hg hm r hd) rep
/-! ### two values -/
def mBin (p : DV → DV → DM DV) (a b : EM) : EM := fun Γ S => (a Γ S).bind fun x S1 => (b Γ S1).bind fun y S2 => p x y S2
/-- a place's rule holds of a primitive -/
def Prim2 (X : Cx) (r : R2) (p : DV → DV → DM DV) : Prop := ∀ (W : WX) (σ : L2.St) ρ H S x y v u Q, XHR X ρ H S → XRep X ρ H x v → XRep X ρ H y u →
  (PostG X W σ ρ H (p x y S) fun d _ ρ' H' => ∀ v, XRep X ρ' H' d v → Q v H') → r v u H Q
theorem bin_of {r : R2} {p : DV → DV → DM DV} (hp : Prim2 X r p) {ma mb : EM} {σ : L2.St} {H : Hp} {Q : VK} (h : tO X W (mBin p ma mb) σ H Q) : tOp r (tO X W ma) (tO X W mb) σ H Q := by
  obtain ⟨ρ, S, Γ, hr, hg, q⟩ := h
  refine ⟨ρ, S, Γ, hr, hg, q.bind.mono fun x S1 ρ1 H1 x1 hr1 ⟨_, q1⟩ v rv => ?_⟩
  refine ⟨ρ1, S1, Γ, hr1, hg.ext x1, q1.bind.mono fun y S2 ρ2 H2 x2 hr2 ⟨_, q2⟩ u ru => ?_⟩
  exact hp W σ ρ2 H2 S2 x y v u Q hr2 (RepV.ext x2 _ _ rv) ru q2
theorem re_op {op : Operator} {r : R2} {p : DV → DV → DM DV} {a b : Expr} {ma mb : EM} {pos : Pos} (ho : OpR X (binaryOp op) r) (hp : Prim2 X r p) (ha : RE X W a ma) (hb : RE X W b mb) : RE X W (.BinOp a op b pos) (mBin p ma mb) :=
  pe_imp (pe_op ho ha hb) fun _ _ _ h => bin_of hp h
theorem re_cmpR {op : CmpOp} {r : R2} {p : DV → DV → DM DV} {a b : Expr} {ma mb : EM} {pos : Pos} (ho : OpR X (compareOp op) r) (hp : Prim2 X r p) (ha : RE X W a ma) (hb : RE X W b mb) (hm : behindInMarks op b = false) : RE X W (.Compare a [op] [b] pos) (mBin p ma mb) :=
  pe_imp (pe_cmpR ho ha hb hm) fun _ _ _ h => bin_of hp h
/-! ### new objects -/
def newLst (l : List DV) : DM DV := fun S => .ok (.ref S.length) (S ++ [.lst l])
theorem rep_new {ρ : List Addr} {H : Hp} {S : DS} {p : Addr} {u : HO} (hr : XHR X ρ H S) : XRep X (ρ ++ [p]) (upd H p u) (.ref S.length) (.ref p) := by
  rw [XRep, RepV]
  exact ⟨p, by rw [← hr.len]; simp, rfl⟩
/-- a new list is there -/
theorem lst_made {ρ : List Addr} {H : Hp} {S : DS} {l : List DV} {vs : List V} {σ : L2.St} {G : DV → DS → List Addr → Hp → Prop} (hr : XHR X ρ H S) (r : RepVs X.K ρ H l vs) (q : PostG X W σ ρ H (newLst l S) G) {p : Addr} (hp : H p = none) :
    G (.ref S.length) (S ++ [.lst l]) (ρ ++ [p]) (upd H p (.lst vs)) :=
  q (ρ ++ [p]) (upd H p (.lst vs)) (Ext.new hp) (hr.new hp ⟨vs, upd_same, RepVs.ext (Ext.new hp).toV _ _ r⟩)
/-- a new tuple is there -/
theorem ext_tup {ρ : List Addr} {H : Hp} {p : Addr} {u : HO} (hp : H p = none) : Ext ρ H ρ (upd H p u) :=
  ⟨fun _ _ e => e, fun b xs e => by rw [upd_ne (ne_of_none e hp)]; exact e, fun b o z e => by rw [upd_ne (ne_of_none e hp)]; exact e, fun b xs e => by rw [upd_ne (ne_of_none e hp)]; exact e⟩
theorem hr_tup {ρ : List Addr} {H : Hp} {S : DS} {p : Addr} {u : HO} (hr : XHR X ρ H S) (hp : H p = none) : XHR X ρ (upd H p u) S :=
  ⟨hr.len, hr.nd, fun n a o e1 e2 => (hr.obj n a o e1 e2).ext (ext_tup hp).toV (upd_ne (by rintro rfl; exact hr.there e1 hp))⟩
/-- what is wanted of a new tuple -/
def QT (H : Hp) (Q : VK) (vs : List V) : Prop := ∀ p (o : Obj), H p = none → o.dict = none → Q (.ref p) (upd H p (.frz o (.tup vs)))
theorem rep_tup {ρ : List Addr} {H : Hp} {p : Addr} {o : Obj} {l : List DV} {vs : List V} (hp : H p = none) (ho : o.dict = none) (r : RepVs X.K ρ H l vs) : XRep X ρ (upd H p (.frz o (.tup vs))) (.tup l) (.ref p) := by
  rw [XRep, RepV]
  exact ⟨p, vs, rfl, .inl ⟨o, upd_same, ho⟩, RepVs.ext (ext_tup hp).toV _ _ r⟩
theorem tup_made {ρ : List Addr} {H : Hp} {S : DS} {l : List DV} {vs : List V} {σ : L2.St} {Q : VK} (hr : XHR X ρ H S) (r : RepVs X.K ρ H l vs) (q : PostG X W σ ρ H (.ok (.tup l) S) fun d _ ρ' H' => ∀ v, XRep X ρ' H' d v → Q v H') : QT H Q vs :=
  fun p o hp ho => q ρ (upd H p (.frz o (.tup vs))) (ext_tup hp) (hr_tup hr hp) _ (rep_tup hp ho r)
theorem frz_ok {P : Program} {w : World} {H : Hp} {h : Heap} {p : Addr} {vs : List V} {us : List Value} (hz : vs.length ≤ sizeLine) (r : Vals vs us) (e : h.get? p = some { cls := .type "tuple", data := .seq us.toArray }) : ObjOk P w H h p (.frz { cls := .type "tuple", data := .seq us.toArray } (.tup vs)) :=
  ⟨e, hz, us, r, ⟨_, e, rfl, _, rfl⟩⟩
/-! ### arithmetic -/
def oAdd : DV → DV → DM DV
  | .int a, .int b => fun S => .ok (.int (a + b)) S
  | .str a, .str b => fun S => if a.length + b.length ≤ sizeLine then .ok (.str (a ++ b)) S else .bad
  | .tup a, .tup b => fun S => if a.length + b.length ≤ sizeLine then .ok (.tup (a ++ b)) S else .bad
  | .ref a, .ref b => fun S => match S[a]?, S[b]? with
    | some (.lst x), some (.lst y) => if x.length + y.length ≤ sizeLine then newLst (x ++ y) S else .bad
    | _, _ => .bad
  | _, _ => fun _ => .bad
def rCatD (K : PySem.W.Frag) : R2 := fun x y H Q => ∃ a b xs ys, x = .ref a ∧ y = .ref b ∧ SqT K H a xs ∧ SqT K H b ys ∧ xs.length + ys.length ≤ sizeLine ∧
  (xs = [] → Q (.ref b) H) ∧ (xs ≠ [] → ys = [] → Q (.ref a) H) ∧ (xs ≠ [] → ys ≠ [] → QT H Q (xs ++ ys))
theorem op_catD : OpR X (binaryOp .Add) (rCatD X.K) := by
  intro pins s σ H x y v u Q I rx ry h
  obtain ⟨a, b, xs, ys, rfl, rfl, ha, hb, hz, q0, q1, q2⟩ := h
  cases rx
  cases ry
  obtain ⟨its, r1, p1, _⟩ := I.tuple ha
  obtain ⟨its2, r2, p2, _⟩ := I.tuple hb
  by_cases hx : xs = []
  · subst hx
    cases r1
    exact cat_tup0 p1 p2 ⟨.ref b, H, I, rfl, q0 rfl⟩
  · refine HT.cat_tup p1 p2 (fun z => hx (r1.nil_iff.mp z)) (fun z => ⟨.ref a, H, I, rfl, q1 hx (r2.nil_iff.mp z)⟩) (fun z => ?_) (by rw [← r1.length, ← r2.length]; exact hz)
    refine ⟨.ref s.heap.objs.size, _, I.laid (t' := s.toks) (fun b ob q => Heap.get?_push_of_some _ q) (Nat.le_refl _) (frz_ok (by rw [List.length_append]; exact hz) (r1.append r2) (Heap.get?_push_size _ rfl)), rfl, q2 hx (fun w => z (r2.nil_iff.mpr w)) _ _ (I.hok.fresh (Nat.le_refl _)) rfl⟩
def rAddA (K : PySem.W.Frag) : R2 := fun x y H Q => (rI0 (fun i j => .int (i + j)) x y H Q ∨ (∃ i j, x = .str i ∧ y = .str j ∧ i.length + j.length ≤ sizeLine ∧ Q (.str (i ++ j)) H)) ∨ (rCatD K x y H Q ∨ rCat x y H Q)
theorem op_addA : OpR X (binaryOp .Add) (rAddA X.K) := (op_add.or op_add_str).or (op_catD.or op_cat)
theorem rep_int {ρ H i v} (h : XRep X ρ H (.int i) v) : v = .int i := by rw [XRep, RepV] at h; exact h
theorem rep_bl {ρ H i v} (h : XRep X ρ H (.bl i) v) : v = .bl i := by rw [XRep, RepV] at h; exact h
theorem rep_str {ρ H i v} (h : XRep X ρ H (.str i) v) : v = .str i := by rw [XRep, RepV] at h; exact h
theorem rep_non {ρ H v} (h : XRep X ρ H .non v) : v = .non := by rw [XRep, RepV] at h; exact h
theorem rep_tupE {ρ H l v} (h : XRep X ρ H (.tup l) v) : ∃ a vs, v = .ref a ∧ SqD X.K H a vs ∧ RepVs X.K ρ H l vs := by rw [XRep, RepV] at h; exact h
theorem rep_refE {ρ H n v} (h : XRep X ρ H (.ref n) v) : ∃ a, ρ[n]? = some a ∧ v = .ref a := by rw [XRep, RepV] at h; exact h
theorem rep_i {ρ H i} : XRep X ρ H (.int i) (.int i) := by rw [XRep, RepV]
theorem rep_b {ρ H i} : XRep X ρ H (.bl i) (.bl i) := by rw [XRep, RepV]
theorem rep_s {ρ H i} : XRep X ρ H (.str i) (.str i) := by rw [XRep, RepV]
theorem rep_n {ρ H} : XRep X ρ H .non .non := by rw [XRep, RepV]
theorem lst_at {ρ : List Addr} {H : Hp} {S : DS} {n : Nat} {l : List DV} {a : Addr} (hr : XHR X ρ H S) (e : S[n]? = some (.lst l)) (ea : ρ[n]? = some a) : ∃ vs, H a = some (.lst vs) ∧ RepVs X.K ρ H l vs := hr.obj n a _ ea e
theorem prim_add : Prim2 X (rAddA X.K) oAdd := by
  intro W σ ρ H S x y v u Q hr rx ry q
  unfold oAdd at q
  split at q
  · cases rep_int rx
    cases rep_int ry
    exact .inl (.inl ⟨_, _, rfl, rfl, q.ok hr _ rep_i⟩)
  · split at q
    · cases rep_str rx
      cases rep_str ry
      exact .inl (.inr ⟨_, _, rfl, rfl, by assumption, q.ok hr _ rep_s⟩)
    · exact q.elim
  · rename_i a b
    split at q
    · rename_i hz
      obtain ⟨p, vs, rfl, sv, r1⟩ := rep_tupE rx
      obtain ⟨p', us, rfl, su, r2⟩ := rep_tupE ry
      have hz' : vs.length + us.length ≤ sizeLine := by rw [← r1.len, ← r2.len]; exact hz
      refine .inr (.inl ⟨p, p', vs, us, rfl, rfl, sv.sqt, su.sqt, hz', fun e => ?_, fun _ e => ?_, fun _ _ => ?_⟩)
      · have e' : a = [] := by have := r1.len; rw [e] at this; exact List.length_eq_zero_iff.mp this
        subst e'
        exact q.ok hr _ ry
      · have e' : b = [] := by have := r2.len; rw [e] at this; exact List.length_eq_zero_iff.mp this
        subst e'
        rw [List.append_nil] at q
        exact q.ok hr _ rx
      · exact tup_made hr (r1.append r2) q
    · exact q.elim
  · split at q
    · rename_i e1 e2
      split at q
      · rename_i hz
        obtain ⟨p, ep, rfl⟩ := rep_refE rx
        obtain ⟨p', ep', rfl⟩ := rep_refE ry
        obtain ⟨vs, hv, r1⟩ := lst_at hr e1 ep
        obtain ⟨us, hu, r2⟩ := lst_at hr e2 ep'
        refine .inr (.inr ⟨p, p', vs, us, rfl, rfl, hv, hu, by rw [← r1.len, ← r2.len]; exact hz, fun z hz => ?_⟩)
        exact lst_made hr (r1.append r2) q hz _ (rep_new hr)
      · exact q.elim
    · exact q.elim
  · exact q.elim
end
end KN
set_option maxHeartbeats 200000
namespace KN
open PySem PySem.Spec PyProof.Rows L2
section
variable {X : Cx} {W : WX} {σ : L2.St} {ρ ρ1 : List Addr} {H H1 : Hp}
/-! ### more arithmetic -/
def oSub : DV → DV → DM DV
  | .int a, .int b => fun S => .ok (.int (a - b)) S
  | _, _ => fun _ => .bad
def oMul : DV → DV → DM DV
  | .int a, .int b => fun S => if ((-(2 ^ 64) < a ∧ a < 2 ^ 64) ∨ (-(2 ^ 64) < b ∧ b < 2 ^ 64)) then .ok (.int (a * b)) S else .bad
  | .tup l, .int k => fun S => if l ≠ [] ∧ 2 ≤ k ∧ k ≤ 1000 ∧ l.length ≤ 1000 then .ok (.tup (List.replicate k.toNat l).flatten) S else .bad
  | .ref n, .int k => fun S => match S[n]? with
    | some (.lst l) => if -(2 ^ 63) ≤ k ∧ k < 2 ^ 63 ∧ l.length * k.toNat ≤ sizeLine then newLst (List.replicate k.toNat l).flatten S else .bad
    | _ => .bad
  | _, _ => fun _ => .bad
def oFdiv : DV → DV → DM DV
  | .int a, .int b => fun S => if 0 < b ∧ b < 1073741824 then .ok (.int (a / b)) S else .bad
  | _, _ => fun _ => .bad
def oMod : DV → DV → DM DV
  | .int a, .int b => fun S => if 0 < b then .ok (.int (a % b)) S else .bad
  | _, _ => fun _ => .bad
def oPow : DV → DV → DM DV
  | .int a, .int b => fun S => if 0 ≤ b ∧ b ≤ 1000000 ∧ a.natAbs < 2 ^ 64 then .ok (.int (a ^ b.toNat)) S else .bad
  | _, _ => fun _ => .bad
theorem prim_sub : Prim2 X (rI0 fun i j => .int (i - j)) oSub := by
  intro W σ ρ H S x y v u Q hr rx ry q
  unfold oSub at q
  split at q
  · cases rep_int rx
    cases rep_int ry
    exact ⟨_, _, rfl, rfl, q.ok hr _ rep_i⟩
  · exact q.elim
theorem prim_fdiv : Prim2 X (rI CDiv fun i j => .int (i / j)) oFdiv := by
  intro W σ ρ H S x y v u Q hr rx ry q
  unfold oFdiv at q
  split at q
  · split at q
    · cases rep_int rx
      cases rep_int ry
      exact ⟨_, _, rfl, rfl, by assumption, q.ok hr _ rep_i⟩
    · exact q.elim
  · exact q.elim
theorem prim_mod : Prim2 X (rI (fun _ j => 0 < j) fun i j => .int (i % j)) oMod := by
  intro W σ ρ H S x y v u Q hr rx ry q
  unfold oMod at q
  split at q
  · split at q
    · cases rep_int rx
      cases rep_int ry
      exact ⟨_, _, rfl, rfl, by assumption, q.ok hr _ rep_i⟩
    · exact q.elim
  · exact q.elim
theorem prim_pow : Prim2 X (rI CPow fun i j => .int (i ^ j.toNat)) oPow := by
  intro W σ ρ H S x y v u Q hr rx ry q
  unfold oPow at q
  split at q
  · split at q
    · cases rep_int rx
      cases rep_int ry
      exact ⟨_, _, rfl, rfl, by assumption, q.ok hr _ rep_i⟩
    · exact q.elim
  · exact q.elim
def rRepD (K : PySem.W.Frag) : R2 := fun x y H Q => ∃ l k xs, x = .ref l ∧ y = .int k ∧ SqT K H l xs ∧ xs ≠ [] ∧ 2 ≤ k ∧ k ≤ 1000 ∧ xs.length ≤ 1000 ∧ QT H Q (List.replicate k.toNat xs).flatten
theorem op_repD : OpR X (binaryOp .Mult) (rRepD X.K) := by
  intro pins s σ H x y v u Q I rx ry h
  obtain ⟨l, k, xs, rfl, rfl, hT, hne, h1, h2, hz, q⟩ := h
  cases rx
  obtain ⟨t, rfl⟩ := ry
  obtain ⟨its, r, ⟨⟨cls, dd, data, sl⟩, ho, hc, n, hd⟩, hs⟩ := I.tuple hT
  simp only at hc hd
  subst hc hd
  have hle : its.length = xs.length := r.length.symm
  have hn : its ≠ [] := fun e => hne (by
    rw [e] at hle
    exact List.eq_nil_of_length_eq_zero hle.symm)
  have hi : its.toArray.isEmpty = false := by
    cases its with
    | nil => exact absurd rfl hn
    | cons a b => rfl
  have hsz0 : its.toArray.size = xs.length := by rw [List.size_toArray, hle]
  have hm : ((its.toArray.size : Nat) : Int) * k ≤ 1000000 := by
    rw [hsz0]
    have a1 : ((xs.length : Nat) : Int) * k ≤ 1000 * k := Int.mul_le_mul_of_nonneg_right (by omega) (by omega)
    omega
  have flen : (List.replicate k.toNat its).flatten.length ≤ sizeLine := by
    rw [PyProof.Rows.lm_len_rep_flat, hle, sizeLine_eq]
    have a1 : k.toNat * xs.length ≤ 1000 * 1000 := Nat.mul_le_mul (by omega) hz
    omega
  have c0 : (decide (k < -(2 ^ 63)) || decide (k ≥ 2 ^ 63)) = false := by
    rw [decide_eq_false (by omega), decide_eq_false (by omega)] <;> rfl
  have c1 : (its.toArray.isEmpty || k == 1) = false := by
    rw [hi, Bool.false_or]
    exact beq_eq_false_iff_ne.mpr (by omega)
  have c2 : (decide (k ≤ 0) || its.toArray.isEmpty) = false := by
    rw [hi, Bool.or_false]
    exact decide_eq_false (by omega)
  have c4 : Builtin.Tuple.tupleTooMany (((its.toArray.size : Nat) : Int) * k) = false := by
    unfold Builtin.Tuple.tupleTooMany
    rw [sizeLine_eq]
    exact decide_eq_false (by omega)
  refine wpAny_binaryOp_repeat_ref (T := "tuple") (U := "int") (by decide) ⟨_, ho, rfl⟩ (fun s' => typeIs_int s' k t) noFill_tuple_mul F.fills_int_mul F.slot_int_rmul repeat_tuple F.slot_int_index.lookup
    (call_meets F.slot_int_rmul (typeIs_int s k t) F.entry_int_rmul (F.args_int_rmul_2 _ _) (int_rmul_tuple k t l its.toArray n dd sl)
      ⟨ho, rfl, ⟨_, ho, rfl⟩, call_meets F.slot_tuple_mul ⟨_, ho, rfl⟩ F.entry_tuple_mul (F.args_tuple_mul_2 _ _) (tuple_mulW l its.toArray n dd sl k t c0 c1 c2 (by omega) c4 (by rw [size_rep, List.size_toArray]; exact flen)) ⟨ho, ?_⟩⟩)
  rw [size_rep]
  have hl2 : (List.replicate k.toNat xs).flatten.length ≤ sizeLine := by rw [PyProof.Rows.lm_len_rep_flat, sizeLine_eq]; have a1 : k.toNat * xs.length ≤ 1000 * 1000 := Nat.mul_le_mul (by omega) hz; omega
  exact ⟨.ref s.heap.objs.size, _, I.laid (t' := s.toks) (fun b ob q => Heap.get?_push_of_some _ q) (Nat.le_refl _) (frz_ok hl2 (r.rep k.toNat) (Heap.get?_push_size _ rfl)), rfl, q _ _ (I.hok.fresh (Nat.le_refl _)) rfl⟩
def rMulA (K : PySem.W.Frag) : R2 := fun x y H Q => (rI CMul (fun i j => .int (i * j)) x y H Q ∨ rRepD K x y H Q) ∨ rRep x y H Q
theorem op_mulA : OpR X (binaryOp .Mult) (rMulA X.K) := (op_mul.or op_repD).or op_rep
theorem prim_mul : Prim2 X (rMulA X.K) oMul := by
  intro W σ ρ H S x y v u Q hr rx ry q
  unfold oMul at q
  split at q
  · split at q
    · cases rep_int rx
      cases rep_int ry
      exact .inl (.inl ⟨_, _, rfl, rfl, by assumption, q.ok hr _ rep_i⟩)
    · exact q.elim
  · rename_i l k
    split at q
    · rename_i h
      obtain ⟨h1, h2, h3, h4⟩ := h
      obtain ⟨p, vs, rfl, sv, r1⟩ := rep_tupE rx
      cases rep_int ry
      refine .inl (.inr ⟨p, k, vs, rfl, rfl, sv.sqt, ?_, h2, h3, by rw [← r1.len]; exact h4, ?_⟩)
      · intro e
        have := r1.len
        rw [e] at this
        exact h1 (List.length_eq_zero_iff.mp this)
      · exact tup_made hr (RepVs.replicate _ r1) q
    · exact q.elim
  · split at q
    · rename_i e1
      split at q
      · rename_i h
        obtain ⟨h1, h2, h3⟩ := h
        obtain ⟨p, ep, rfl⟩ := rep_refE rx
        cases rep_int ry
        obtain ⟨vs, hv, r1⟩ := lst_at hr e1 ep
        refine .inr ⟨p, _, vs, rfl, rfl, hv, h1, h2, by rw [← r1.len]; exact h3, fun z hz => ?_⟩
        exact lst_made hr (RepVs.replicate _ r1) q hz _ (rep_new hr)
      · exact q.elim
    · exact q.elim
  · exact q.elim
/-! ### order of ints -/
def oCmp (p : Int → Int → Bool) : DV → DV → DM DV
  | .int a, .int b => fun S => .ok (.bl (p a b)) S
  | _, _ => fun _ => .bad
theorem prim_cmp (p : Int → Int → Bool) : Prim2 X (rI0 fun i j => .bl (p i j)) (oCmp p) := by
  intro W σ ρ H S x y v u Q hr rx ry q
  unfold oCmp at q
  split at q
  · cases rep_int rx
    cases rep_int ry
    exact ⟨_, _, rfl, rfl, q.ok hr _ rep_b⟩
  · exact q.elim
/-! ### == -/
def flatD : DV → Bool
  | .non => true
  | .bl _ => true
  | .int _ => true
  | .str _ => true
  | _ => false
def eqF : DV → DV → Bool
  | .non, .non => true
  | .bl a, .bl b => a == b
  | .bl a, .int b => (if a then 1 else 0) == b
  | .int a, .bl b => a == (if b then 1 else 0)
  | .int a, .int b => a == b
  | .str a, .str b => a == b
  | _, _ => false
def mapO {α β : Type} (f : α → Option β) : List α → Option (List β)
  | [] => some []
  | a :: as => match f a, mapO f as with
    | some b, some bs => some (b :: bs)
    | _, _ => none
/-- a value as data; lists looked up in the store, f deep -/
def dData (S : DS) : Nat → DV → Option PyData
  | 0, d => match d with
    | .non => some .none
    | .bl b => some (.bool b)
    | .int i => some (.int i)
    | .str x => some (.str x)
    | _ => none
  | f + 1, d => match d with
    | .non => some .none
    | .bl b => some (.bool b)
    | .int i => some (.int i)
    | .str x => some (.str x)
    | .tup l => (mapO (dData S f) l).map .tuple
    | .ref n => match S[n]? with
      | some (.lst l) => (mapO (dData S f) l).map .list
      | _ => none
    | .scr _ => none
theorem dpAll_of {F : DV → Option PyData} (ih : ∀ d a v, F d = some a → XRep X ρ H d v → Dp X.K H v a) :
    ∀ (l : List DV) (as : List PyData) (vs : List V), mapO F l = some as → RepVs X.K ρ H l vs → DpAll X.K H vs as
  | [], as, vs, h, r => by
    rw [RepVs] at r
    subst r
    cases h
    exact .nil
  | d :: ds, as, vs, h, r => by
    rw [RepVs] at r
    obtain ⟨v, us, rfl, r1, r2⟩ := r
    unfold mapO at h
    split at h
    · rename_i b bs e1 e2
      cases h
      exact .cons (ih _ _ _ e1 r1) (dpAll_of ih ds bs us e2 r2)
    · cases h
theorem dp_of {S : DS} (hr : XHR X ρ H S) : ∀ (f : Nat) (d : DV) (a : PyData) (v : V), dData S f d = some a → XRep X ρ H d v → Dp X.K H v a
  | 0, d, a, v, h, r => by
    cases d <;> simp [dData] at h
    · subst h; cases rep_non r; exact .non
    · subst h; cases rep_bl r; exact .bl _
    · subst h; cases rep_int r; exact .int _
    · subst h; cases rep_str r; exact .str _
  | f + 1, d, a, v, h, r => by
    cases d with
    | non => simp [dData] at h; subst h; cases rep_non r; exact .non
    | bl b => simp [dData] at h; subst h; cases rep_bl r; exact .bl _
    | int b => simp [dData] at h; subst h; cases rep_int r; exact .int _
    | str b => simp [dData] at h; subst h; cases rep_str r; exact .str _
    | scr b => simp [dData] at h
    | tup l =>
      simp only [dData] at h
      cases e : mapO (dData S f) l with
      | none => rw [e] at h; cases h
      | some as =>
        rw [e] at h
        cases h
        obtain ⟨p, vs, rfl, sv, r1⟩ := rep_tupE r
        exact .tup sv.sqt (dpAll_of (fun d a v => dp_of hr f d a v) l as vs e r1)
    | ref n =>
      simp only [dData] at h
      split at h
      · rename_i l e1
        cases e : mapO (dData S f) l with
        | none => rw [e] at h; cases h
        | some as =>
          rw [e] at h
          cases h
          obtain ⟨p, ep, rfl⟩ := rep_refE r
          obtain ⟨vs, hv, r1⟩ := lst_at hr e1 ep
          exact .lst (.of hv) (dpAll_of (fun d a v => dp_of hr f d a v) l as vs e r1)
      · cases h
/-- == where the store tells it -/
def eqS (S : DS) (x y : DV) : Option Bool :=
  if flatD x && flatD y then some (eqF x y)
  else match dData S 12 x, dData S 12 y with
    | some a, some b => if SeqAt.shaped a && SeqAt.shaped b then some (PyData.eqv a b) else none
    | _, _ => none
def oEq (neg : Bool) : DV → DV → DM DV := fun x y S => match eqS S x y with
  | some b => .ok (.bl (neg ^^ b)) S
  | none => .bad
def rEqA (K : PySem.W.Frag) : R2 := fun x y H Q => rEq x y H Q ∨ rEqD K x y H Q
def rNeA (K : PySem.W.Frag) : R2 := fun x y H Q => rNe x y H Q ∨ rNeD K x y H Q
theorem op_eqA (hu : X.A.units + 64 < cLine) : OpR X (compareOp .Eq) (rEqA X.K) := op_eq.or (op_eqD hu)
theorem op_neA (hu : X.A.units + 64 < cLine) : OpR X (compareOp .NotEq) (rNeA X.K) := op_ne.or (op_neD hu)
theorem shB (b : Bool) : SeqAt.shaped (.bool b) = true := by cases b <;> decide
theorem shI (b : Int) : SeqAt.shaped (.int b) = true := by simp [SeqAt.shaped, PyData.canLay0, PyData.depth]
theorem flat_eq {x y : DV} {v u : V} (fx : flatD x = true) (fy : flatD y = true) (rx : XRep X ρ H x v) (ry : XRep X ρ H y u) :
    (scal v u = true ∧ decide (v = u) = eqF x y) ∨ ∃ d e, Dp X.K H v d ∧ Dp X.K H u e ∧ SeqAt.shaped d = true ∧ SeqAt.shaped e = true ∧ PyData.eqv d e = eqF x y := by
  cases x <;> simp [flatD] at fx <;> cases y <;> simp [flatD] at fy
  case bl.int a b => cases rep_bl rx; cases rep_int ry; exact .inr ⟨_, _, .bl _, .int _, shB _, shI _, by simp [PyData.eqv, eqF]⟩
  case int.bl a b => cases rep_int rx; cases rep_bl ry; exact .inr ⟨_, _, .int _, .bl _, shI _, shB _, by simp [PyData.eqv, eqF]⟩
  all_goals (left)
  case bl.bl a b => cases rep_bl rx; cases rep_bl ry; exact ⟨rfl, dec_bl⟩
  case int.int a b => cases rep_int rx; cases rep_int ry; exact ⟨rfl, dec_int⟩
  case str.str a b => cases rep_str rx; cases rep_str ry; exact ⟨rfl, dec_str⟩
  all_goals (first | cases rep_non rx | cases rep_bl rx | cases rep_int rx | cases rep_str rx) <;> (first | cases rep_non ry | cases rep_bl ry | cases rep_int ry | cases rep_str ry) <;> exact ⟨rfl, rfl⟩
theorem eqS_of {S : DS} {x y : DV} {v u : V} {b : Bool} (hr : XHR X ρ H S) (e : eqS S x y = some b) (rx : XRep X ρ H x v) (ry : XRep X ρ H y u) :
    (scal v u = true ∧ decide (v = u) = b) ∨ ∃ d e, Dp X.K H v d ∧ Dp X.K H u e ∧ SeqAt.shaped d = true ∧ SeqAt.shaped e = true ∧ PyData.eqv d e = b := by
  unfold eqS at e
  split at e
  · rename_i h
    rw [Bool.and_eq_true] at h
    cases e
    exact flat_eq h.1 h.2 rx ry
  · split at e
    · rename_i a c e1 e2
      split at e
      · rename_i h
        rw [Bool.and_eq_true] at h
        cases e
        exact .inr ⟨a, c, dp_of hr _ _ _ _ e1 rx, dp_of hr _ _ _ _ e2 ry, h.1, h.2, rfl⟩
      · cases e
    · cases e
theorem prim_eq : Prim2 X (rEqA X.K) (oEq false) := by
  intro W σ ρ H S x y v u Q hr rx ry q
  unfold oEq at q
  split at q
  · rename_i b e
    have q' : Q (.bl b) H := by
      have := q.ok hr (.bl b) (by rw [Bool.false_xor]; exact rep_b)
      exact this
    rcases eqS_of hr e rx ry with ⟨h1, h2⟩ | ⟨d, c, h1, h2, h3, h4, h5⟩
    · exact .inl ⟨h1, by rw [h2]; exact q'⟩
    · exact .inr ⟨d, c, h1, h2, h3, h4, by rw [h5]; exact q'⟩
  · exact q.elim
theorem prim_ne : Prim2 X (rNeA X.K) (oEq true) := by
  intro W σ ρ H S x y v u Q hr rx ry q
  unfold oEq at q
  split at q
  · rename_i b e
    have q' : Q (.bl (!b)) H := by
      have := q.ok hr (.bl (!b)) (by rw [Bool.true_xor]; exact rep_b)
      exact this
    rcases eqS_of hr e rx ry with ⟨h1, h2⟩ | ⟨d, c, h1, h2, h3, h4, h5⟩
    · exact .inl ⟨h1, by rw [h2]; exact q'⟩
    · exact .inr ⟨d, c, h1, h2, h3, h4, by rw [h5]; exact q'⟩
  · exact q.elim
end
end KN
set_option maxHeartbeats 200000
namespace KN
open PySem PySem.Spec PyProof.Rows L2
section
variable {X : Cx} {W : WX} {σ : L2.St} {ρ ρ1 : List Addr} {H H1 : Hp}
/-! ### in: sequences, texts -/
theorem op_inT (hu : X.A.units + 65 < cLine) : OpR X (compareOp .In) (fun x y H Q => ∃ d ds, Dp X.K H x d ∧ Dp X.K H y (.tuple ds) ∧ SeqAt.shaped d = true ∧ SeqAt.shaped (.tuple ds) = true ∧ Q (.bl (ds.any fun z => PyData.eqv z d)) H) := by
  intro pins s σ H x y v u Q I rx ry h
  obtain ⟨d, ds, hd, he, sd, se, q⟩ := h
  obtain ⟨as, r1⟩ := Dp.reads I d x v hd rx
  obtain ⟨bs, r2⟩ := Dp.reads I (.tuple ds) y u he ry
  exact SeqAt.in_tuple_reads r2 r1 (SeqAt.canLay_of_shaped se) (SeqAt.canLay_of_shaped sd) (room_in_shaped sd hu) ⟨.bl _, H, I, rfl, q⟩
theorem op_notInT (hu : X.A.units + 65 < cLine) : OpR X (compareOp .NotIn) (fun x y H Q => ∃ d ds, Dp X.K H x d ∧ Dp X.K H y (.tuple ds) ∧ SeqAt.shaped d = true ∧ SeqAt.shaped (.tuple ds) = true ∧ Q (.bl (!ds.any fun z => PyData.eqv z d)) H) := by
  intro pins s σ H x y v u Q I rx ry h
  obtain ⟨d, ds, hd, he, sd, se, q⟩ := h
  obtain ⟨as, r1⟩ := Dp.reads I d x v hd rx
  obtain ⟨bs, r2⟩ := Dp.reads I (.tuple ds) y u he ry
  exact SeqAt.notIn_tuple_reads r2 r1 (SeqAt.canLay_of_shaped se) (SeqAt.canLay_of_shaped sd) (room_in_shaped sd hu) ⟨.bl _, H, I, rfl, q⟩
def rInQ (K : PySem.W.Frag) (neg : Bool) : R2 := fun x y H Q =>
  ((rIn K neg x y H Q) ∨ (∃ d ds, Dp K H x d ∧ Dp K H y (.tuple ds) ∧ SeqAt.shaped d = true ∧ SeqAt.shaped (.tuple ds) = true ∧ Q (.bl (neg ^^ ds.any fun z => PyData.eqv z d)) H)) ∨
  ((∃ d ds, Dp K H x d ∧ Dp K H y (.list ds) ∧ SeqAt.shaped d = true ∧ SeqAt.shaped (.list ds) = true ∧ Q (.bl (neg ^^ ds.any fun z => PyData.eqv z d)) H) ∨
   (∃ (c : Nat) (z : Str), x = .str ⟨#[c]⟩ ∧ y = .str z ∧ Q (.bl (neg ^^ decide (c ∈ z.cps.toList))) H))
theorem op_inQ (hu : X.A.units + 65 < cLine) : OpR X (compareOp .In) (rInQ X.K false) := by
  refine ((op_in_seq.or ?_).or (OpR.or ?_ ?_))
  · intro pins s σ H x y v u Q I rx ry h
    exact op_inT hu pins s σ H x y v u Q I rx ry (by simpa using h)
  · intro pins s σ H x y v u Q I rx ry h
    exact op_inD hu pins s σ H x y v u Q I rx ry (by unfold rInD; simpa using h)
  · intro pins s σ H x y v u Q I rx ry h
    exact op_in_sign pins s σ H x y v u Q I rx ry (by simpa using h)
theorem op_notInQ (hu : X.A.units + 65 < cLine) : OpR X (compareOp .NotIn) (rInQ X.K true) := by
  refine ((op_notIn_seq.or ?_).or (OpR.or ?_ ?_))
  · intro pins s σ H x y v u Q I rx ry h
    exact op_notInT hu pins s σ H x y v u Q I rx ry (by simpa using h)
  · intro pins s σ H x y v u Q I rx ry h
    exact op_notInD hu pins s σ H x y v u Q I rx ry (by unfold rNotInD; simpa using h)
  · intro pins s σ H x y v u Q I rx ry h
    exact op_notIn_sign pins s σ H x y v u Q I rx ry (by simpa using h)
/-- the items of a list or tuple -/
def itemsOf (S : DS) : DV → Option (List DV)
  | .tup l => some l
  | .ref n => match S[n]? with
    | some (.lst l) => some l
    | _ => none
  | _ => none
def inS (S : DS) (x y : DV) : Option Bool :=
  match y with
  | .str z => match x with
    | .str c => match c.cps.toList with
      | [k] => some (decide (k ∈ z.cps.toList))
      | _ => none
    | _ => none
  | y => match itemsOf S y with
    | some l => if flatD x && l.all flatD then some (l.any fun z => eqF z x)
      else match dData S 12 x, dData S 13 y with
        | some a, some (.tuple as) => if SeqAt.shaped a && SeqAt.shaped (.tuple as) then some (as.any fun z => PyData.eqv z a) else none
        | some a, some (.list as) => if SeqAt.shaped a && SeqAt.shaped (.list as) then some (as.any fun z => PyData.eqv z a) else none
        | _, _ => none
    | none => none
theorem flatV_of {x : DV} {v : V} (f : flatD x = true) (r : XRep X ρ H x v) : flatV v = true := by
  cases x <;> simp [flatD] at f
  · cases rep_non r; rfl
  · cases rep_bl r; rfl
  · cases rep_int r; rfl
  · cases rep_str r; rfl
theorem eqV_of {x y : DV} {v u : V} (fx : flatD x = true) (fy : flatD y = true) (rx : XRep X ρ H x v) (ry : XRep X ρ H y u) : eqV v u = eqF x y := by
  cases x <;> simp [flatD] at fx <;> cases y <;> simp [flatD] at fy <;>
  (first | cases rep_non rx | cases rep_bl rx | cases rep_int rx | cases rep_str rx) <;> (first | cases rep_non ry | cases rep_bl ry | cases rep_int ry | cases rep_str ry) <;> rfl
theorem any_of {x : DV} {v : V} (fx : flatD x = true) (rx : XRep X ρ H x v) : ∀ (l : List DV) (vs : List V), l.all flatD = true → RepVs X.K ρ H l vs → vs.all flatV = true ∧ inV v vs = l.any fun z => eqF z x
  | [], vs, _, r => by rw [RepVs] at r; subst r; exact ⟨rfl, rfl⟩
  | d :: ds, vs, f, r => by
    rw [RepVs] at r
    obtain ⟨u, us, rfl, r1, r2⟩ := r
    rw [List.all_cons, Bool.and_eq_true] at f
    obtain ⟨h1, h2⟩ := any_of fx rx ds us f.2 r2
    refine ⟨by rw [List.all_cons, flatV_of f.1 r1, h1]; rfl, ?_⟩
    unfold inV at h2 ⊢
    rw [List.any_cons, List.any_cons, h2, eqV_of f.1 fx r1 rx]
def oIn (neg : Bool) : DV → DV → DM DV := fun x y S => match inS S x y with
  | some b => .ok (.bl (neg ^^ b)) S
  | none => .bad
theorem itemsOf_rep {S : DS} {y : DV} {u : V} {l : List DV} (hr : XHR X ρ H S) (e : itemsOf S y = some l) (ry : XRep X ρ H y u) : ∃ p vs, u = .ref p ∧ (SqL X.K H p vs ∨ SqT X.K H p vs) ∧ RepVs X.K ρ H l vs := by
  cases y <;> simp [itemsOf] at e
  case tup l' =>
    subst e
    obtain ⟨p, vs, rfl, sv, r1⟩ := rep_tupE ry
    exact ⟨p, vs, rfl, .inr sv.sqt, r1⟩
  case ref n =>
    split at e
    · rename_i l' e1
      cases e
      obtain ⟨p, ep, rfl⟩ := rep_refE ry
      obtain ⟨vs, hv, r1⟩ := lst_at hr e1 ep
      exact ⟨p, vs, rfl, .inl (.of hv), r1⟩
    · cases e
theorem prim_inQ (neg : Bool) : Prim2 X (rInQ X.K neg) (oIn neg) := by
  intro W σ ρ H S x y v u Q hr rx ry q
  unfold oIn at q
  split at q
  · rename_i b e
    have q' : Q (.bl (neg ^^ b)) H := q.ok hr _ rep_b
    unfold inS at e
    split at e
    · rename_i z
      split at e
      · rename_i c
        split at e
        · rename_i k ek
          cases e
          cases rep_str rx
          cases rep_str ry
          refine .inr (.inr ⟨k, z, ?_, rfl, q'⟩)
          congr 1
          obtain ⟨⟨cl⟩⟩ := c
          simp at ek
          rw [ek]
        · cases e
      · cases e
    · split at e
      · rename_i l el
        split at e
        · rename_i hf
          rw [Bool.and_eq_true] at hf
          cases e
          obtain ⟨p, vs, rfl, sv, r1⟩ := itemsOf_rep hr el ry
          obtain ⟨h1, h2⟩ := any_of hf.1 rx l vs hf.2 r1
          refine .inl (.inl ⟨p, vs, rfl, sv, flatV_of hf.1 rx, h1, ?_⟩)
          rw [h2]
          cases neg
          · simpa using q'
          · simpa using q'
        · split at e
          · rename_i a as e1 e2
            split at e
            · rename_i hs
              rw [Bool.and_eq_true] at hs
              cases e
              exact .inl (.inr ⟨a, as, dp_of hr _ _ _ _ e1 rx, dp_of hr _ _ _ _ e2 ry, hs.1, hs.2, q'⟩)
            · cases e
          · rename_i a as e1 e2
            split at e
            · rename_i hs
              rw [Bool.and_eq_true] at hs
              cases e
              exact .inr (.inl ⟨a, as, dp_of hr _ _ _ _ e1 rx, dp_of hr _ _ _ _ e2 ry, hs.1, hs.2, q'⟩)
            · cases e
          · cases e
      · cases e
  · exact q.elim
/-! ### tests -/
def mTest (m : EM) : TM := fun Γ S => (m Γ S).bind fun d S1 => match d with
  | .bl b => .ok b S1
  | _ => .bad
theorem test_of {m : EM} {σ : L2.St} {H : Hp} {Q : Bool → Hp → Prop} (h : tT X W (mTest m) σ H Q) : tB (tO X W m) σ H Q := by
  obtain ⟨ρ, S, Γ, hr, hg, q⟩ := h
  refine ⟨ρ, S, Γ, hr, hg, q.bind.mono fun d S1 ρ1 H1 x1 hr1 ⟨_, q1⟩ v rv => ?_⟩
  split at q1
  · cases rep_bl rv
    exact ⟨_, rfl, q1.ok hr1⟩
  · exact q1.elim
theorem rt_val {e : Expr} {m : EM} (h : RE X W e m) (he : ∀ whole, isTrue e X.env whole = (do let v ← whole; standAt e.pos; holding [v] (truthy v))) : RT X W e (mTest m) :=
  pt_imp (pt_val h he) fun _ _ _ q => test_of q
theorem rt_cmpR {op : CmpOp} {r : R2} {p : DV → DV → DM DV} {a b : Expr} {ma mb : EM} {pos : Pos} (ho : OpR X (compareOp op) r) (hp : Prim2 X r p) (ha : RE X W a ma) (hb : RE X W b mb) (hm : behindInMarks op b = false) : RT X W (.Compare a [op] [b] pos) (mTest (mBin p ma mb)) :=
  pt_imp (pt_cmpR ho ha hb hm) fun σ H Q h => bin_of hp (by
    obtain ⟨ρ, S, Γ, hr, hg, q⟩ := h
    refine ⟨ρ, S, Γ, hr, hg, q.bind.mono fun d S1 ρ1 H1 x1 hr1 ⟨_, q1⟩ v rv => ?_⟩
    split at q1
    · cases rep_bl rv
      exact ⟨_, rfl, q1.ok hr1⟩
    · exact q1.elim)
/-- a op b op' c -/
def mChain (p p' : DV → DV → DM DV) (a b c : EM) : EM := fun Γ S => (a Γ S).bind fun x S1 => (b Γ S1).bind fun y S2 => (p x y S2).bind fun z S3 => match z with
  | .bl true => (c Γ S3).bind fun t S4 => p' y t S4
  | .bl false => .ok (.bl false) S3
  | _ => .bad
theorem chain_of {r r' : R2} {p p' : DV → DV → DM DV} (hp : Prim2 X r p) (hp' : Prim2 X r' p') {ma mb mc : EM} {σ : L2.St} {H : Hp} {Q : VK} (h : tO X W (mChain p p' ma mb mc) σ H Q) : tChain r r' (tO X W ma) (tO X W mb) (tO X W mc) σ H Q := by
  obtain ⟨ρ, S, Γ, hr, hg, q⟩ := h
  refine ⟨ρ, S, Γ, hr, hg, q.bind.mono fun x S1 ρ1 H1 x1 hr1 ⟨_, q1⟩ v rv => ?_⟩
  refine ⟨ρ1, S1, Γ, hr1, hg.ext x1, q1.bind.mono fun y S2 ρ2 H2 x2 hr2 ⟨_, q2⟩ u ru => ?_⟩
  refine hp W σ ρ2 H2 S2 x y v u _ hr2 (RepV.ext x2 _ _ rv) ru (q2.bind.mono fun z S3 ρ3 H3 x3 hr3 ⟨_, q3⟩ t rt => ?_)
  split at q3
  · cases rep_bl rt
    refine ⟨true, rfl, ?_⟩
    rw [if_pos rfl]
    refine ⟨ρ3, S3, Γ, hr3, hg.ext ((x1.trans x2).trans x3), q3.bind.mono fun k S4 ρ4 H4 x4 hr4 ⟨_, q4⟩ t' rt' => ?_⟩
    exact hp' W σ ρ4 H4 S4 y k u t' Q hr4 (RepV.ext (x3.trans x4) _ _ ru) rt' q4
  · cases rep_bl rt
    refine ⟨false, rfl, ?_⟩
    rw [if_neg Bool.false_ne_true]
    exact q3.ok hr3 _ rep_b
  · exact q3.elim
theorem re_chain {op op' : CmpOp} {r r' : R2} {p p' : DV → DV → DM DV} {a b c : Expr} {ma mb mc : EM} {pos : Pos} (ho : OpR X (compareOp op) r) (ho' : OpR X (compareOp op') r') (hp : Prim2 X r p) (hp' : Prim2 X r' p') (ha : RE X W a ma) (hb : RE X W b mb) (hc : RE X W c mc)
    (hm : lastMarks [op, op'] [b, c] = false) : RE X W (.Compare a [op, op'] [b, c] pos) (mChain p p' ma mb mc) := pe_imp (pe_chain ho ho' ha hb hc hm) fun _ _ _ h => chain_of hp hp' h
theorem rt_chain {op op' : CmpOp} {r r' : R2} {p p' : DV → DV → DM DV} {a b c : Expr} {ma mb mc : EM} {pos : Pos} (ho : OpR X (compareOp op) r) (ho' : OpR X (compareOp op') r') (hp : Prim2 X r p) (hp' : Prim2 X r' p') (ha : RE X W a ma) (hb : RE X W b mb) (hc : RE X W c mc)
    (hm : lastMarks [op, op'] [b, c] = false) : RT X W (.Compare a [op, op'] [b, c] pos) (mTest (mChain p p' ma mb mc)) :=
  pt_imp (pt_chain ho ho' ha hb hc hm) fun σ H Q h => chain_of hp hp' (by
    obtain ⟨ρ, S, Γ, hr, hg, q⟩ := h
    refine ⟨ρ, S, Γ, hr, hg, q.bind.mono fun d S1 ρ1 H1 x1 hr1 ⟨_, q1⟩ v rv => ?_⟩
    split at q1
    · cases rep_bl rv
      exact ⟨_, rfl, q1.ok hr1⟩
    · exact q1.elim)
/-! and, or, not in tests -/
def mAndT (a b : TM) : TM := fun Γ S => (a Γ S).bind fun c S1 => if c = true then b Γ S1 else .ok false S1
def mOrT (a b : TM) : TM := fun Γ S => (a Γ S).bind fun c S1 => if c = true then .ok true S1 else b Γ S1
def mNotT (a : TM) : TM := fun Γ S => (a Γ S).bind fun c S1 => .ok (!c) S1
abbrev RW (X : Cx) (W : WX) (e : Expr) (m : TM) : Prop := PW X e (tT X W m)
theorem rw_one {op : BoolOp} {a : Expr} {m : TM} {pos : Pos} (h : RT X W a m) : RW X W (.BoolOp op [a] pos) m := by
  cases op with
  | And => exact pw_and1 h
  | Or => exact pw_or1 h
theorem rw_and {a b : Expr} {rest : List Expr} {pos : Pos} {ma mb : TM} (ha : RT X W a ma) (hb : RW X W (.BoolOp .And (b :: rest) pos) mb) : RW X W (.BoolOp .And (a :: b :: rest) pos) (mAndT ma mb) :=
  pw_imp (pw_and ha hb) fun σ H Q ⟨ρ, S, Γ, hr, hg, q⟩ => by
    refine ⟨ρ, S, Γ, hr, hg, q.bind.mono fun c S1 ρ1 H1 x1 hr1 ⟨_, q1⟩ => ?_⟩
    cases c with
    | true => rw [if_pos rfl] at q1 ⊢; exact ⟨ρ1, S1, Γ, hr1, hg.ext x1, q1⟩
    | false => rw [if_neg Bool.false_ne_true] at q1 ⊢; exact q1.ok hr1
theorem rw_or {a b : Expr} {rest : List Expr} {pos : Pos} {ma mb : TM} (ha : RT X W a ma) (hb : RW X W (.BoolOp .Or (b :: rest) pos) mb) : RW X W (.BoolOp .Or (a :: b :: rest) pos) (mOrT ma mb) :=
  pw_imp (pw_or ha hb) fun σ H Q ⟨ρ, S, Γ, hr, hg, q⟩ => by
    refine ⟨ρ, S, Γ, hr, hg, q.bind.mono fun c S1 ρ1 H1 x1 hr1 ⟨_, q1⟩ => ?_⟩
    cases c with
    | false => rw [if_neg Bool.false_ne_true] at q1 ⊢; exact ⟨ρ1, S1, Γ, hr1, hg.ext x1, q1⟩
    | true => rw [if_pos rfl] at q1 ⊢; exact q1.ok hr1
theorem rt_not {a : Expr} {pos : Pos} {ma : TM} (ha : RT X W a ma) : RT X W (.UnaryOp .Not a pos) (mNotT ma) :=
  pt_imp (pt_not ha) fun σ H Q ⟨ρ, S, Γ, hr, hg, q⟩ => ⟨ρ, S, Γ, hr, hg, q.bind.mono fun c S1 ρ1 H1 x1 hr1 ⟨_, q1⟩ => q1.ok hr1⟩
/-! .. as values -/
def mAndV (a b : EM) : EM := fun Γ S => (a Γ S).bind fun d S1 => match d with
  | .bl true => b Γ S1
  | .bl false => .ok (.bl false) S1
  | _ => .bad
def mOrV (a b : EM) : EM := fun Γ S => (a Γ S).bind fun d S1 => match d with
  | .bl true => .ok (.bl true) S1
  | .bl false => b Γ S1
  | _ => .bad
def mNotV (a : EM) : EM := fun Γ S => (a Γ S).bind fun d S1 => match d with
  | .bl c => .ok (.bl (!c)) S1
  | _ => .bad
theorem re_one {op : BoolOp} {a : Expr} {m : EM} {pos : Pos} (h : RE X W a m) : RE X W (.BoolOp op [a] pos) m := pe_one h
theorem re_and {a b : Expr} {rest : List Expr} {pos : Pos} {ma mb : EM} (ha : RE X W a ma) (hb : RE X W (.BoolOp .And (b :: rest) pos) mb) : RE X W (.BoolOp .And (a :: b :: rest) pos) (mAndV ma mb) :=
  pe_imp (pe_and ha hb) fun σ H Q ⟨ρ, S, Γ, hr, hg, q⟩ => by
    refine ⟨ρ, S, Γ, hr, hg, q.bind.mono fun d S1 ρ1 H1 x1 hr1 ⟨_, q1⟩ v rv => ?_⟩
    split at q1
    · cases rep_bl rv
      refine ⟨true, rfl, ?_⟩
      rw [if_pos rfl]
      exact ⟨ρ1, S1, Γ, hr1, hg.ext x1, q1⟩
    · cases rep_bl rv
      refine ⟨false, rfl, ?_⟩
      rw [if_neg Bool.false_ne_true]
      exact q1.ok hr1 _ rep_b
    · exact q1.elim
theorem re_or {a b : Expr} {rest : List Expr} {pos : Pos} {ma mb : EM} (ha : RE X W a ma) (hb : RE X W (.BoolOp .Or (b :: rest) pos) mb) : RE X W (.BoolOp .Or (a :: b :: rest) pos) (mOrV ma mb) :=
  pe_imp (pe_or ha hb) fun σ H Q ⟨ρ, S, Γ, hr, hg, q⟩ => by
    refine ⟨ρ, S, Γ, hr, hg, q.bind.mono fun d S1 ρ1 H1 x1 hr1 ⟨_, q1⟩ v rv => ?_⟩
    split at q1
    · cases rep_bl rv
      refine ⟨true, rfl, ?_⟩
      rw [if_pos rfl]
      exact q1.ok hr1 _ rep_b
    · cases rep_bl rv
      refine ⟨false, rfl, ?_⟩
      rw [if_neg Bool.false_ne_true]
      exact ⟨ρ1, S1, Γ, hr1, hg.ext x1, q1⟩
    · exact q1.elim
theorem re_not {a : Expr} {pos : Pos} {ma : EM} (ha : RE X W a ma) : RE X W (.UnaryOp .Not a pos) (mNotV ma) :=
  pe_imp (pe_not ha) fun σ H Q ⟨ρ, S, Γ, hr, hg, q⟩ => by
    refine ⟨ρ, S, Γ, hr, hg, q.bind.mono fun d S1 ρ1 H1 x1 hr1 ⟨_, q1⟩ v rv => ?_⟩
    split at q1
    · cases rep_bl rv
      exact ⟨_, rfl, q1.ok hr1 _ rep_b⟩
    · exact q1.elim
def mNeg (a : EM) : EM := fun Γ S => (a Γ S).bind fun d S1 => match d with
  | .int c => .ok (.int (-c)) S1
  | _ => .bad
theorem re_neg {a : Expr} {pos : Pos} {ma : EM} (ha : RE X W a ma) : RE X W (.UnaryOp .USub a pos) (mNeg ma) :=
  pe_imp (pe_un un_neg ha) fun σ H Q ⟨ρ, S, Γ, hr, hg, q⟩ => by
    refine ⟨ρ, S, Γ, hr, hg, q.bind.mono fun d S1 ρ1 H1 x1 hr1 ⟨_, q1⟩ v rv => ?_⟩
    split at q1
    · cases rep_int rv
      exact ⟨_, rfl, q1.ok hr1 _ rep_i⟩
    · exact q1.elim
def mIf (t : TM) (a b : EM) : EM := fun Γ S => (t Γ S).bind fun c S1 => if c = true then a Γ S1 else b Γ S1
theorem re_if {c a b : Expr} {pos : Pos} {t : TM} {ma mb : EM} (hc : RT X W c t) (ha : RE X W a ma) (hb : RE X W b mb) : RE X W (.IfExp c a b pos) (mIf t ma mb) :=
  pe_imp (pe_ifExp hc ha hb) fun σ H Q ⟨ρ, S, Γ, hr, hg, q⟩ => by
    refine ⟨ρ, S, Γ, hr, hg, q.bind.mono fun k S1 ρ1 H1 x1 hr1 ⟨_, q1⟩ => ?_⟩
    cases k with
    | true => rw [if_pos rfl] at q1 ⊢; exact ⟨ρ1, S1, Γ, hr1, hg.ext x1, q1⟩
    | false => rw [if_neg Bool.false_ne_true] at q1 ⊢; exact ⟨ρ1, S1, Γ, hr1, hg.ext x1, q1⟩
/-! is None -/
def mIsN (neg : Bool) (a : EM) : EM := fun Γ S => (a Γ S).bind fun d S1 => .ok (.bl (neg ^^ decide (d = .non))) S1
theorem rep_isN {ρ : List Addr} {H : Hp} {d : DV} {v : V} (r : XRep X ρ H d v) : decide (v = .non) = decide (d = .non) := by
  cases d with
  | non => cases rep_non r; rfl
  | bl b => cases rep_bl r; rfl
  | int b => cases rep_int r; rfl
  | str b => cases rep_str r; rfl
  | tup b => obtain ⟨_, _, rfl, _⟩ := rep_tupE r; rfl
  | ref b => obtain ⟨_, _, rfl⟩ := rep_refE r; rfl
  | scr b => rw [XRep, RepV] at r; obtain ⟨_, rfl, _⟩ := r; rfl
theorem isN_of {m : EM} {σ : L2.St} {H : Hp} {Q : VK} (h : tO X W (mIsN false m) σ H Q) : tIsN (tO X W m) σ H Q := by
  obtain ⟨ρ, S, Γ, hr, hg, q⟩ := h
  refine ⟨ρ, S, Γ, hr, hg, q.bind.mono fun d S1 ρ1 H1 x1 hr1 ⟨_, q1⟩ v rv => ?_⟩
  show Q (.bl (decide (v = .non))) H1
  rw [rep_isN rv]
  have := q1.ok hr1 _ rep_b
  simpa using this
theorem notN_of {m : EM} {σ : L2.St} {H : Hp} {Q : VK} (h : tO X W (mIsN true m) σ H Q) : tNotN (tO X W m) σ H Q := by
  obtain ⟨ρ, S, Γ, hr, hg, q⟩ := h
  refine ⟨ρ, S, Γ, hr, hg, q.bind.mono fun d S1 ρ1 H1 x1 hr1 ⟨_, q1⟩ v rv => ?_⟩
  show Q (.bl (!decide (v = .non))) H1
  rw [rep_isN rv]
  have := q1.ok hr1 _ rep_b
  simpa using this
theorem tb_of {m : EM} {t : TE} (f : ∀ σ H Q, tO X W m σ H Q → t σ H Q) {σ : L2.St} {H : Hp} {Q : Bool → Hp → Prop} (h : tT X W (mTest m) σ H Q) : tB t σ H Q := f σ H _ (test_of h)
theorem re_isN {a : Expr} {j : Nat} {pos pos' : Pos} {m : EM} (h : RE X W a m) : RE X W (.Compare a [.Is] [.Constant .none j pos'] pos) (mIsN false m) := pe_imp (pe_cmp (pc_isN h) rfl) fun _ _ _ q => isN_of q
theorem re_notN {a : Expr} {j : Nat} {pos pos' : Pos} {m : EM} (h : RE X W a m) : RE X W (.Compare a [.IsNot] [.Constant .none j pos'] pos) (mIsN true m) := pe_imp (pe_cmp (pc_notN h) rfl) fun _ _ _ q => notN_of q
theorem rt_isN {a : Expr} {j : Nat} {pos pos' : Pos} {m : EM} (h : RE X W a m) : RT X W (.Compare a [.Is] [.Constant .none j pos'] pos) (mTest (mIsN false m)) := pt_imp (pt_cmp (pc_isN h) rfl) fun _ _ _ q => tb_of (fun _ _ _ q => isN_of q) q
theorem rt_notN {a : Expr} {j : Nat} {pos pos' : Pos} {m : EM} (h : RE X W a m) : RT X W (.Compare a [.IsNot] [.Constant .none j pos'] pos) (mTest (mIsN true m)) := pt_imp (pt_cmp (pc_notN h) rfl) fun _ _ _ q => tb_of (fun _ _ _ q => notN_of q) q
end
end KN
set_option maxHeartbeats 200000
namespace KN
open PySem PySem.Spec PyProof.Rows L2
section
variable {X : Cx} {W : WX} {σ : L2.St} {ρ ρ1 : List Addr} {H H1 : Hp}
/-! ### argument lists -/
def mNil : AM := fun _ S => .ok [] S
def mCons (m : EM) (r : AM) : AM := fun Γ S => (m Γ S).bind fun d S1 => (r Γ S1).bind fun ds S2 => .ok (d :: ds) S2
def mStar (m : EM) (r : AM) : AM := fun Γ S => (m Γ S).bind fun d S1 => match itemsOf S1 d with
  | some l => (r Γ S1).bind fun ds S2 => .ok (l ++ ds) S2
  | none => .bad
theorem ra_nil : RA X W [] mNil := pa_imp pa_nil fun σ H Q ⟨ρ, S, Γ, hr, hg, q⟩ => q.ok hr _ .nil
theorem ra_cons {e : Expr} {es : List Expr} {m : EM} {r : AM} (he : RE X W e m) (hr : RA X W es r) (hs : starEach (e :: es) X.env = (false, eval e X.env) :: starEach es X.env) : RA X W (e :: es) (mCons m r) :=
  pa_imp (pa_cons he hr hs) fun σ H Q ⟨ρ, S, Γ, hr, hg, q⟩ => by
    refine ⟨ρ, S, Γ, hr, hg, q.bind.mono fun d S1 ρ1 H1 x1 hr1 ⟨_, q1⟩ v rv => ?_⟩
    refine ⟨ρ1, S1, Γ, hr1, hg.ext x1, q1.bind.mono fun ds S2 ρ2 H2 x2 hr2 ⟨_, q2⟩ vs rvs => ?_⟩
    exact q2.ok hr2 _ (.cons (RepV.ext x2 _ _ rv) rvs)
theorem ra_star {e : Expr} {es : List Expr} {m : EM} {r : AM} {p : Pos} (he : RE X W e m) (hr : RA X W es r) (hs : starEach (.Starred e p :: es) X.env = (true, eval e X.env) :: starEach es X.env) : RA X W (.Starred e p :: es) (mStar m r) :=
  pa_imp (StX.pa_star he hr hs) fun σ H Q ⟨ρ, S, Γ, hr, hg, q⟩ => by
    refine ⟨ρ, S, Γ, hr, hg, q.bind.mono fun d S1 ρ1 H1 x1 hr1 ⟨_, q1⟩ v rv => ?_⟩
    split at q1
    · rename_i l el
      obtain ⟨p, vs, rfl, sv, r1⟩ := itemsOf_rep hr1 el rv
      refine ⟨p, vs, rfl, sv.symm, ρ1, S1, Γ, hr1, hg.ext x1, q1.bind.mono fun ds S2 ρ2 H2 x2 hr2 ⟨_, q2⟩ us rus => ?_⟩
      exact q2.ok hr2 _ ((RepVs.ext x2 _ _ r1).append rus)
    · exact q1.elim
/-! ### displays -/
def mTup (r : AM) : EM := fun Γ S => (r Γ S).bind fun ds S1 => if ds.length ≤ sizeLine then .ok (.tup ds) S1 else .bad
def mLst (r : AM) : EM := fun Γ S => (r Γ S).bind fun ds S1 => if ds.length ≤ sizeLine then newLst ds S1 else .bad
def tTupD (t : TA) : TE := fun σ H Q => t σ H fun xs H1 => xs.length ≤ sizeLine ∧ QT H1 Q xs
theorem pe_tupD {es : List Expr} {t : TA} {pos : Pos} {x1} (h : PA X es t) : PE X (.Tuple es x1 pos) (tTupD t) := by
  refine ⟨fun pins s σ H Q I hq => ?_⟩
  refine wpAny_Tuple_spliced (thn (h.run pos pins s σ H _ I hq) fun us s1 ⟨xs, H1, I1, r, z, q⟩ => ⟨by rw [← r.length]; exact z, ?_⟩)
  exact ⟨.ref s1.heap.objs.size, _, I1.laid (t' := s1.toks) (fun b u e => Heap.get?_push_of_some _ e) (Nat.le_refl _) (frz_ok z r (Heap.get?_push_size _ rfl)), rfl, q _ _ (I1.hok.fresh (Nat.le_refl _)) rfl⟩
theorem re_tup {es : List Expr} {r : AM} {k : Nat} {pos : Pos} (h : RA X W es r) : RE X W (.Tuple es k pos) (mTup r) :=
  pe_imp (pe_tupD h) fun σ H Q ⟨ρ, S, Γ, hr, hg, q⟩ => by
    refine ⟨ρ, S, Γ, hr, hg, q.bind.mono fun ds S1 ρ1 H1 x1 hr1 ⟨_, q1⟩ vs rvs => ?_⟩
    split at q1
    · rename_i hz
      exact ⟨by rw [← rvs.len]; exact hz, tup_made hr1 rvs q1⟩
    · exact q1.elim
theorem re_lst {es : List Expr} {r : AM} {pos : Pos} (h : RA X W es r) : RE X W (.List es pos) (mLst r) :=
  pe_imp (pe_lst h) fun σ H Q ⟨ρ, S, Γ, hr, hg, q⟩ => by
    refine ⟨ρ, S, Γ, hr, hg, q.bind.mono fun ds S1 ρ1 H1 x1 hr1 ⟨_, q1⟩ vs rvs => ?_⟩
    split at q1
    · rename_i hz
      exact ⟨by rw [← rvs.len]; exact hz, fun p hp => lst_made hr1 rvs q1 hp _ (rep_new hr1)⟩
    · exact q1.elim
/-! ### dicts with int and text keys: reading -/
def isLeaf : DV → Bool
  | .int _ => true
  | .str _ => true
  | _ => false
def dFind (kvs : List (DV × DV)) (k : DV) : Option DV := (kvs.find? fun p => decide (p.1 = k)).map (·.2)
def toKey : DV → Key
  | .str x => .inr x
  | .int i => .inl i
  | _ => .inl 0
theorem keyR_leaf {d : DV} {k : Key} (h : keyR d k) : isLeaf d = true := by
  cases d <;> first | rfl | (cases k <;> exact h.elim)
theorem keyR_kV {d : DV} {k : Key} {v : V} (h : keyR d k) (r : XRep X ρ H d v) : v = kV k := by
  cases d <;> cases k <;> first | exact h.elim | skip
  · cases rep_int r; rw [show _ = _ from h]; rfl
  · cases rep_str r; rw [show _ = _ from h]; rfl
theorem keyR_to {d : DV} (h : isLeaf d = true) : keyR d (toKey d) := by cases d <;> simp [isLeaf] at h <;> rfl
theorem keyR_eq {d e : DV} {k l : Key} (h : keyR d k) (g : keyR e l) : decide (d = e) = decide (k = l) := by
  cases d <;> cases k <;> first | exact h.elim | skip
  all_goals (cases e <;> cases l <;> first | exact g.elim | skip)
  all_goals (
    have h' := h
    have g' := g
    simp only [keyR] at h' g'
    subst h' g'
    simp)
theorem RepKs.find {kvs : List (DV × DV)} {ks : List (Key × V)} (r : RepKs X.K ρ H kvs ks) {d : DV} {k : Key} (hk : keyR d k) :
    (∀ x, dFind kvs d = some x → ∃ v, valV ks k = some v ∧ XRep X ρ H x v) ∧ (dFind kvs d = none → valV ks k = none) := by
  induction r with
  | nil => exact ⟨fun x e => by simp [dFind] at e, fun _ => rfl⟩
  | @cons a b l₁ l₂ h t ih =>
    have e1 := keyR_eq h.1 hk
    unfold dFind valV at *
    rw [List.find?_cons, List.find?_cons, e1]
    cases decide (b.1 = k) with
    | true => exact ⟨fun x e => by simp at e; subst e; exact ⟨_, rfl, h.2⟩, fun e => by simp at e⟩
    | false => exact ih
/-! ### subscripts -/
theorem ix_dict (hu : X.A.units + 1 < cLine) : IxR X (fun x y H Q => ∃ a v, x = .ref a ∧ DGet H a y (some v) ∧ Q v H) := by
  intro value slice pins s σ H x y v u Q I rx ry h hs
  obtain ⟨a, z, rfl, g, q⟩ := h
  obtain rfl : v = Value.ref a := rx
  unfold subscriptTail
  refine wpAny_bind ?_
  rw [getitemInPython_of_ne (dict_typeIs I g).not_modules]
  refine wpAny_bind (wpAny_specialOf (dict_typeIs I g) PySem.F.slot_dict_getitem.lookup ?_)
  have fin : wpAny (model X.prog X.w) X.A (subscripted slice false (.ref a) u) (fun r s₃ => wpAny (model X.prog X.w) X.A (letTemporaryGo value (.ref a) r >>= fun _ => pure r) (EP X pins σ Q) X.xe s₃) X.xe s := by
    rw [hs]
    exact wpAny_operating (d_getItem hu I g ry fun w' s3 I3 rw' => wpAny_bind (wpAny_letTemporaryGo (wpAny_pure ⟨z, H, I3, rw', q⟩)))
  first
    | exact wpAny_pure (wpAny_bind fin)
    | exact wpAny_bind (wpAny_pure (wpAny_bind fin))
    | exact wpAny_bind fin
end
end KN
set_option maxHeartbeats 200000
namespace KN
open PySem PySem.Spec PyProof.Rows L2
/-! ### nested keys -/
mutual
inductive NKv (K : PySem.W.Frag) (H : Hp) : NestedKey → V → Prop
  | non : NKv K H .none .non
  | num (i : Int) : NKv K H (.num i) (.int i)
  | text (x : Str) : NKv K H (.text x) (.str x)
  | tup {a : Addr} {vs : List V} {ks : List NestedKey} : SqT K H a vs → NKvs K H ks vs → NKv K H (.tup ks) (.ref a)
inductive NKvs (K : PySem.W.Frag) (H : Hp) : List NestedKey → List V → Prop
  | nil : NKvs K H [] []
  | cons {k : NestedKey} {v : V} {ks : List NestedKey} {vs : List V} : NKv K H k v → NKvs K H ks vs → NKvs K H (k :: ks) (v :: vs)
end
section
variable {X : Cx} {W : WX} {σ : L2.St} {ρ ρ1 : List Addr} {H H1 : Hp} {pins : List (Addr × Obj)} {s : Shared}
mutual
theorem nkv_of : ∀ (d : DV) (k : NestedKey) (v : V), toNK d = some k → XRep X ρ H d v → NKv X.K H k v
  | .non, k, v, e, r => by simp [toNK] at e; subst e; cases rep_non r; exact .non
  | .bl _, _, _, e, _ => by simp [toNK] at e
  | .int i, k, v, e, r => by simp [toNK] at e; subst e; cases rep_int r; exact .num _
  | .str i, k, v, e, r => by simp [toNK] at e; subst e; cases rep_str r; exact .text _
  | .ref _, _, _, e, _ => by simp [toNK] at e
  | .scr _, _, _, e, _ => by simp [toNK] at e
  | .tup l, k, v, e, r => by
    rw [toNK] at e
    obtain ⟨ks, e1, rfl⟩ := Option.map_eq_some_iff.mp e
    obtain ⟨p, vs, rfl, sv, r1⟩ := rep_tupE r
    exact .tup sv.sqt (nkvs_of l ks vs e1 r1)
theorem nkvs_of : ∀ (ds : List DV) (ks : List NestedKey) (vs : List V), toNKs ds = some ks → RepVs X.K ρ H ds vs → NKvs X.K H ks vs
  | [], ks, vs, e, r => by
    rw [toNKs] at e
    cases e
    rw [RepVs] at r
    subst r
    exact .nil
  | d :: ds, ks, vs, e, r => by
    rw [toNKs] at e
    rw [RepVs] at r
    obtain ⟨v, us, rfl, r1, r2⟩ := r
    split at e
    · rename_i k ks' e1 e2
      cases e
      exact .cons (nkv_of d k v e1 r1) (nkvs_of ds ks' us e2 r2)
    · cases e
end
mutual
theorem NKv.is (I : Inv X pins σ H s) : ∀ (k : NestedKey) (v : V) (u : Value), NKv X.K H k v → RelV v u → NestedIs s.heap k u
  | .none, _, _, h, r => by cases h; cases r; exact .none
  | .num i, _, _, h, r => by cases h; obtain ⟨t, rfl⟩ := r; exact .int _ _
  | .text i, _, _, h, r => by cases h; obtain ⟨t, rfl⟩ := r; exact .text _ _
  | .tup ks, _, _, h, r => by
    cases h with
    | tup sv hs =>
      cases r
      obtain ⟨its, rv, ⟨o, ho, hc, n, hd⟩, _⟩ := I.tuple sv
      exact .tup ho hc hd (NKvs.is I ks _ _ hs (by simpa using rv))
theorem NKvs.is (I : Inv X pins σ H s) : ∀ (ks : List NestedKey) (vs : List V) (us : List Value), NKvs X.K H ks vs → Vals vs us → NestedAll s.heap ks us
  | [], _, _, h, r => by cases h; cases r; exact .nil
  | k :: ks, _, _, h, r => by
    cases h with
    | cons h1 h2 =>
      cases r with
      | cons r1 r2 => exact .cons (NKv.is I k _ _ h1 r1) (NKvs.is I ks _ _ h2 r2)
end
mutual
theorem toNK_inj : ∀ (d e : DV) (k : NestedKey), toNK d = some k → toNK e = some k → d = e
  | .non, e, k, h, g => by
    simp [toNK] at h; subst h
    cases e <;> first | rfl | simp [toNK] at g
  | .bl _, _, _, h, _ => by simp [toNK] at h
  | .int i, e, k, h, g => by
    simp [toNK] at h; subst h
    cases e <;> simp [toNK] at g
    rw [g]
  | .str i, e, k, h, g => by
    simp [toNK] at h; subst h
    cases e <;> simp [toNK] at g
    rw [g]
  | .ref _, _, _, h, _ => by simp [toNK] at h
  | .scr _, _, _, h, _ => by simp [toNK] at h
  | .tup l, e, k, h, g => by
    rw [toNK] at h
    obtain ⟨ks, e1, rfl⟩ := Option.map_eq_some_iff.mp h
    cases e <;> simp [toNK] at g
    rename_i l'
    rw [toNKs_inj l l' ks e1 g]
theorem toNKs_inj : ∀ (d e : List DV) (k : List NestedKey), toNKs d = some k → toNKs e = some k → d = e
  | [], e, k, h, g => by
    rw [toNKs] at h
    cases h
    cases e with
    | nil => rfl
    | cons a b => rw [toNKs] at g; split at g <;> cases g
  | d :: ds, e, k, h, g => by
    rw [toNKs] at h
    split at h
    · rename_i k1 ks1 e1 e2
      cases h
      cases e with
      | nil => rw [toNKs] at g; cases g
      | cons a b =>
        rw [toNKs] at g
        split at g
        · rename_i k2 ks2 f1 f2
          cases g
          rw [toNK_inj d a _ e1 f1, toNKs_inj ds b _ e2 f2]
        · cases g
    · cases h
end
theorem toNK_eq {d e : DV} {k l : NestedKey} (h : toNK d = some k) (g : toNK e = some l) : decide (d = e) = decide (k = l) := by
  by_cases q : k = l
  · subst q
    rw [toNK_inj d e k h g]
    simp
  · have : d ≠ e := fun z => q (by subst z; rw [h] at g; exact Option.some.inj g)
    simp [q, this]
/-! ### a dict with tuple keys, seen -/
def NView (X : Cx) (H : Hp) (a : Addr) (ka : List (NestedKey × Addr × V)) : Prop :=
  ((Rd H a (dN X.prog X.w a ka) ∧ ∀ x ∈ ka, NKv X.K H x.1 (.ref x.2.1)) ∨ (Rd H a (.dK []) ∧ ka = []))
abbrev NR : NestedKey × Addr × V → NestedKey × Addr × Value → Prop := fun p q => p.1 = q.1 ∧ p.2.1 = q.2.1 ∧ RelV p.2.2 q.2.2
theorem nview_at (I : Inv X pins σ H s) {a : Addr} {ka : List (NestedKey × Addr × V)} (h : NView X H a ka) :
    ka.length ≤ sizeLine ∧ (a == sysModules) = false ∧ (∀ x ∈ ka, x.1.depth ≤ 8) ∧ ∃ xs, Paired NR ka xs ∧ s.heap.DictOfH (nestedKind X.prog X.w) a xs := by
  rcases h with ⟨h, hk⟩ | ⟨h, rfl⟩
  · obtain ⟨q, _, _⟩ := (show ObjOk X.prog X.w H s.heap a (.ext (rawN X.prog X.w a ka)) from h.ok I.hok)
    obtain ⟨z, hs, hd, xs, rel, o, es, ep, ho, hx, hdat, he, nd⟩ := q
    refine ⟨z, hs, hd, xs, rel, o, es, ep, ho, hx, hdat, he, fun x hx' => ?_, nd⟩
    have key : ∀ (l : List (NestedKey × Addr × V)) (xs : List (NestedKey × Addr × Value)), Paired NR l xs → (∀ y ∈ l, NKv X.K H y.1 (.ref y.2.1) ∧ y.1.depth ≤ 8) → ∀ x ∈ xs, NestedIs s.heap x.1 (.ref x.2.1) ∧ x.1.depth ≤ 8 := by
      intro l xs r
      induction r with
      | nil => intro _ x hx; cases hx
      | @cons p q l1 l2 h1 t ih =>
        intro hy x hx
        rcases List.mem_cons.mp hx with rfl | hx
        · obtain ⟨e1, e2, _⟩ := h1
          obtain ⟨n1, n2⟩ := hy p List.mem_cons_self
          rw [← e1, ← e2]
          exact ⟨n1.is I _ _ _ rfl, n2⟩
        · exact ih (fun y hy' => hy y (List.mem_cons_of_mem _ hy')) x hx
    exact key ka xs rel (fun y hy => ⟨hk y hy, hd y hy⟩) x hx'
  · obtain ⟨z, hs, vs, rel, o, es, ep, ho, hx, hdat, hks, hp, nd⟩ := dk_rd I.hok h
    cases rel
    cases hp' : es.toList with
    | nil => exact ⟨Nat.zero_le _, hs, (fun x hx => by cases hx), [], .nil, o, es, ep, ho, hx, hdat, hp', (fun x hx => by cases hx), List.nodup_nil⟩
    | cons e r => rw [hp'] at hp; cases hp
def findN (ka : List (NestedKey × Addr × V)) (k : NestedKey) : Option (Addr × V) := (ka.find? fun x => decide (x.1 = k)).map (·.2)
theorem NR.find {ka : List (NestedKey × Addr × V)} {xs : List (NestedKey × Addr × Value)} (r : Paired NR ka xs) (k : NestedKey) :
    (findN ka k = none ∧ atKey xs k = none) ∨ ∃ b v u, findN ka k = some (b, v) ∧ atKey xs k = some (b, u) ∧ RelV v u := by
  induction r with
  | nil => exact .inl ⟨rfl, rfl⟩
  | @cons p q l₁ l₂ h t ih =>
    unfold findN atKey at *
    rw [List.find?_cons, List.find?_cons, ← h.1]
    cases decide (p.1 = k) with
    | true => exact .inr ⟨p.2.1, p.2.2, q.2.2, rfl, by rw [h.2.1] <;> rfl, h.2.2⟩
    | false => exact ih
def putN (ka : List (NestedKey × Addr × V)) (k : NestedKey) (b : Addr) (v : V) : List (NestedKey × Addr × V) :=
  if (findN ka k).isSome then ka.map fun x => if x.1 = k then (x.1, x.2.1, v) else x else ka ++ [(k, b, v)]
def dropN (ka : List (NestedKey × Addr × V)) (k : NestedKey) : List (NestedKey × Addr × V) := ka.filter fun x => decide (x.1 ≠ k)
theorem Paired.map2 {α β : Type} {F : α → β → Prop} {f : α → α} {g : β → β} : ∀ {l₁ : List α} {l₂ : List β}, Paired F l₁ l₂ → (∀ a b, F a b → F (f a) (g b)) → Paired F (l₁.map f) (l₂.map g)
  | _, _, .nil, _ => .nil
  | _, _, .cons r t, h => .cons (h _ _ r) (Paired.map2 t h)
theorem NR.put {ka : List (NestedKey × Addr × V)} {xs : List (NestedKey × Addr × Value)} (r : Paired NR ka xs) (k : NestedKey) (b : Addr) {v : V} {u : Value} (rv : RelV v u) : Paired NR (putN ka k b v) (storedH xs k b u) := by
  unfold putN storedH
  rcases NR.find r k with ⟨h1, h2⟩ | ⟨c, v', u', h1, h2, _⟩
  · rw [h1, h2]
    exact r.snoc ⟨rfl, rfl, rv⟩
  · rw [h1, h2]
    refine Paired.map2 r fun p q hh => ?_
    show NR (if p.1 = k then (p.1, p.2.1, v) else p) (putAt k u q)
    unfold putAt
    rw [← hh.1]
    by_cases e : p.1 = k
    · rw [if_pos e, if_pos e]; exact ⟨rfl, hh.2.1, rv⟩
    · rw [if_neg e, if_neg e]; exact ⟨hh.1, hh.2⟩
theorem NR.drop {ka : List (NestedKey × Addr × V)} {xs : List (NestedKey × Addr × Value)} (r : Paired NR ka xs) (k : NestedKey) : Paired NR (dropN ka k) (withoutH xs k) := by
  induction r with
  | nil => exact .nil
  | @cons p q l₁ l₂ h t ih =>
    unfold dropN withoutH at *
    rw [List.filter_cons, List.filter_cons, ← h.1]
    cases decide (p.1 ≠ k) with
    | true => exact .cons ⟨h.1, h.2⟩ ih
    | false => exact ih
theorem putN_len (ka : List (NestedKey × Addr × V)) (k : NestedKey) (b : Addr) (v : V) : (putN ka k b v).length ≤ ka.length + 1 := by
  unfold putN
  split
  · rw [List.length_map]; omega
  · simp
theorem putN_mem {ka : List (NestedKey × Addr × V)} {k : NestedKey} {b : Addr} {v : V} {x : NestedKey × Addr × V} (h : x ∈ putN ka k b v) : (∃ y ∈ ka, y.1 = x.1 ∧ y.2.1 = x.2.1) ∨ (x.1 = k ∧ x.2.1 = b) := by
  unfold putN at h
  split at h
  · obtain ⟨y, hy, e⟩ := List.mem_map.mp h
    left
    refine ⟨y, hy, ?_⟩
    split at e <;> subst e <;> exact ⟨rfl, rfl⟩
  · rcases List.mem_append.mp h with h | h
    · exact .inl ⟨x, h, rfl, rfl⟩
    · rw [List.mem_singleton] at h
      subst h
      exact .inr ⟨rfl, rfl⟩
theorem nroom {A : Around} (hu : A.units + 64 < cLine) {prog : Program} {w : World} : (nestedKind prog w).room A.in1 := by
  show A.units + 1 + 8 < cLine
  omega
/-- what a key and its tuple must be -/
def KeyN (X : Cx) (H : Hp) (k : NestedKey) (y : V) : Prop := NKv X.K H k y ∧ k.depth ≤ 8 ∧ ∃ b, y = .ref b
theorem KeyN.is (I : Inv X pins σ H s) {k : NestedKey} {b : Addr} (h : KeyN X H k (.ref b)) : (nestedKind X.prog X.w).is s.heap k b := ⟨h.1.is I _ _ _ rfl, h.2.1⟩
theorem n_in {Q : Value → Shared → Prop} {E : Value → Shared → Prop} (hu : X.A.units + 64 < cLine) (I : Inv X pins σ H s) {a : Addr} {ka : List (NestedKey × Addr × V)} {k : NestedKey} {y : V} {u : Value} (g : NView X H a ka) (hk : KeyN X H k y) (ry : RelV y u)
    (h : ∀ s', Inv X pins σ H s' → Q (.bool (findN ka k).isSome) s') : wpAny (model X.prog X.w) X.A (compareOp .In u (.ref a)) Q E s := by
  obtain ⟨b, rfl⟩ := hk.2.2
  cases ry
  obtain ⟨z, hs, _, xs, rel, hm⟩ := nview_at I g
  have e : (atKey xs k).isSome = (findN ka k).isSome := by
    rcases NR.find rel k with ⟨h1, h2⟩ | ⟨c, v, u, h1, h2, _⟩ <;> rw [h1, h2] <;> rfl
  refine wpAny_in_heap (nroom hu) (hk.is I) hs hm ?_
  rw [e]
  exact h _ (I.tok _)
theorem n_notIn {Q : Value → Shared → Prop} {E : Value → Shared → Prop} (hu : X.A.units + 64 < cLine) (I : Inv X pins σ H s) {a : Addr} {ka : List (NestedKey × Addr × V)} {k : NestedKey} {y : V} {u : Value} (g : NView X H a ka) (hk : KeyN X H k y) (ry : RelV y u)
    (h : ∀ s', Inv X pins σ H s' → Q (.bool (!(findN ka k).isSome)) s') : wpAny (model X.prog X.w) X.A (compareOp .NotIn u (.ref a)) Q E s := by
  obtain ⟨b, rfl⟩ := hk.2.2
  cases ry
  obtain ⟨z, hs, _, xs, rel, hm⟩ := nview_at I g
  have e : (atKey xs k).isSome = (findN ka k).isSome := by
    rcases NR.find rel k with ⟨h1, h2⟩ | ⟨c, v, u, h1, h2, _⟩ <;> rw [h1, h2] <;> rfl
  show wpAny _ _ (do return .bool (!(← contains (.ref a) (.ref b)))) Q E s
  refine wpAny_bind (wpAny_contains_heap (nroom hu) (hk.is I) hs hm (wpAny_pure ?_))
  rw [e]
  exact h _ (I.tok _)
theorem n_getItem {Q : Value → Shared → Prop} {E : Value → Shared → Prop} (hu : X.A.units + 64 < cLine) (I : Inv X pins σ H s) {a : Addr} {ka : List (NestedKey × Addr × V)} {k : NestedKey} {y v : V} {c : Addr} {u : Value} (g : NView X H a ka) (hk : KeyN X H k y) (ry : RelV y u) (hf : findN ka k = some (c, v))
    (h : ∀ w' s', Inv X pins σ H s' → RelV v w' → Q w' s') : wpAny (model X.prog X.w) X.A (getItem (.ref a) u) Q E s := by
  obtain ⟨b, rfl⟩ := hk.2.2
  cases ry
  obtain ⟨z, hs, _, xs, rel, hm⟩ := nview_at I g
  rcases NR.find rel k with ⟨h1, h2⟩ | ⟨c', v', u', h1, h2, rv⟩
  · rw [hf] at h1; cases h1
  · rw [hf] at h1; cases h1
    exact wpAny_getItem_heap (nroom hu) (hk.is I) hm h2 (h _ _ (I.tok _) rv)
theorem n_get2 {Q : Value → Shared → Prop} {E : Value → Shared → Prop} (hu : X.A.units + 64 < cLine) (I : Inv X pins σ H s) {a : Addr} {ka : List (NestedKey × Addr × V)} {k : NestedKey} {y d : V} {u r : Value} (g : NView X H a ka) (hk : KeyN X H k y) (ry : RelV y u) (rd : RelV d r)
    (h : ∀ w' s', Inv X pins σ H s' → RelV (((findN ka k).map (·.2)).getD d) w' → Q w' s') : wpAny (model X.prog X.w) X.A (call (.builtin "dict.get") [.ref a, u, r]) Q E s := by
  obtain ⟨b, rfl⟩ := hk.2.2
  cases ry
  obtain ⟨z, hs, _, xs, rel, hm⟩ := nview_at I g
  refine call_meetsIn PySem.F.slot_dict_get hm.typeIs PySem.F.entry_dict_get (PySem.F.args_dict_get_3 _ _ _) (meetsH_dict_get_default (nestedKind X.prog X.w) a b hs r) ⟨nroom hu, k, xs, hk.is I, hm, h _ _ (I.tok _) ?_⟩
  rcases NR.find rel k with ⟨h1, h2⟩ | ⟨c', v', u', h1, h2, rv⟩
  · rw [h1, h2]; exact rd
  · rw [h1, h2]; exact rv
theorem dN_ok {H' : Hp} {h' : Heap} {a : Addr} {ka : List (NestedKey × Addr × V)} {xs : List (NestedKey × Addr × Value)} (z : ka.length ≤ sizeLine) (hs : (a == sysModules) = false) (hd : ∀ x ∈ ka, x.1.depth ≤ 8) (rel : Paired NR ka xs) (hm : h'.DictOfH (nestedKind X.prog X.w) a xs) : ObjOk X.prog X.w H' h' a (dN X.prog X.w a ka) := by
  obtain ⟨o, es, ep, ho, hx, hdat, he, _, nd⟩ := hm
  refine ⟨⟨z, hs, hd, xs, rel, o, es, ep, ho, hx, hdat, he, nd⟩, ⟨o, ho⟩, fun h1 h2 p k => ?_⟩
  obtain ⟨z, hs, hd, xs, rel, o, es, ep, ho, r⟩ := p
  exact ⟨z, hs, hd, xs, rel, o, es, ep, k o ho, r⟩
theorem dK0_ok {H' : Hp} {h' : Heap} {a : Addr} (hs : (a == sysModules) = false) (hm : h'.DictOfH (nestedKind X.prog X.w) a []) : ObjOk X.prog X.w H' h' a (.dK []) := by
  obtain ⟨o, es, ep, ho, hx, hdat, he, _, nd⟩ := hm
  have e : es = #[] := by
    have : es.toList = [] := he
    simpa using this
  subst e
  refine ⟨Nat.zero_le _, hs, [], .nil, o, #[], ep, ho, hx, hdat, (fun e he => by simp at he), .nil, List.nodup_nil⟩
/-- the heap behind d[k] = v, del d[k] -/
def nPut (X : Cx) (H : Hp) (a : Addr) (ka : List (NestedKey × Addr × V)) : Hp := upd H a (if ka = [] then .dK [] else dN X.prog X.w a ka)
theorem nview_mut {a : Addr} {ka : List (NestedKey × Addr × V)} (g : NView X H a ka) (hl : ∀ o u, H a ≠ some (.frz o u)) : Mut (H a) := by
  rcases g with ⟨h, _⟩ | ⟨h, _⟩
  · rcases h with h | ⟨o, h⟩
    · rw [h]; exact True.intro
    · exact absurd h (hl _ _)
  · rcases h with h | ⟨o, h⟩
    · rw [h]; exact True.intro
    · exact absurd h (hl _ _)
theorem n_setItem {Q : Unit → Shared → Prop} {E : Value → Shared → Prop} (hu : X.A.units + 64 < cLine) (I : Inv X pins σ H s) {a : Addr} {ka : List (NestedKey × Addr × V)} {k : NestedKey} {b : Addr} {v : V} {u r : Value} (g : NView X H a ka) (hl : ∀ o u, H a ≠ some (.frz o u)) (hk : KeyN X H k (.ref b)) (ry : RelV (.ref b) u) (rv : RelV v r)
    (hz : ka.length < sizeLine) (h : ∀ s', Inv X pins σ (nPut X H a (putN ka k b v)) s' → Q () s') : wpAny (model X.prog X.w) X.A (setItem (.ref a) u r) Q E s := by
  cases ry
  obtain ⟨z, hs, hd, xs, rel, hm⟩ := nview_at I g
  refine wpAny_setItem_heap (nroom hu) (hk.is I) hm (fun h' hm' hsb => h _ ?_) (by rw [← Paired.length rel]; exact z)
  have he : ∃ q, h'.get? a = some q := let ⟨o, _, _, ho, _⟩ := hm'; ⟨o, ho⟩
  refine d_write I (nview_mut g hl) hsb he ?_
  have hne : putN ka k b v ≠ [] := by
    unfold putN
    split
    · rename_i hh
      intro e
      rw [List.map_eq_nil_iff] at e
      subst e
      simp [findN] at hh
    · simp
  rw [if_neg hne]
  refine dN_ok ?_ hs (fun x hx => ?_) (NR.put rel k b rv) hm'
  · have := putN_len ka k b v; omega
  · rcases putN_mem hx with ⟨y, hy, e, _⟩ | ⟨e, _⟩
    · rw [← e]; exact hd y hy
    · rw [e]; exact hk.2.1
theorem n_setdefault {Q : Value → Shared → Prop} {E : Value → Shared → Prop} (hu : X.A.units + 64 < cLine) (I : Inv X pins σ H s) {a : Addr} {ka : List (NestedKey × Addr × V)} {k : NestedKey} {b : Addr} {v : V} {u r : Value} (g : NView X H a ka) (hl : ∀ o u, H a ≠ some (.frz o u)) (hk : KeyN X H k (.ref b)) (ry : RelV (.ref b) u) (rv : RelV v r)
    (hz : ka.length < sizeLine) (h1 : ∀ c x w' s', findN ka k = some (c, x) → Inv X pins σ H s' → RelV x w' → Q w' s') (h2 : ∀ s', findN ka k = none → Inv X pins σ (nPut X H a (putN ka k b v)) s' → Q r s') :
    wpAny (model X.prog X.w) X.A (call (.builtin "dict.setdefault") [.ref a, u, r]) Q E s := by
  cases ry
  obtain ⟨z, hs, hd, xs, rel, hm⟩ := nview_at I g
  refine call_setdefault_heap (nroom hu) (hk.is I) hs hm (fun p hp => ?_) (fun hn h' hm' hsb => h2 _ ?_ ?_) (by rw [← Paired.length rel]; exact z)
  · rcases NR.find rel k with ⟨e1, e2⟩ | ⟨c', v', u', e1, e2, rv'⟩
    · rw [hp] at e2; cases e2
    · rw [hp] at e2; cases e2
      exact h1 _ _ _ _ e1 (I.tok _) rv'
  · rcases NR.find rel k with ⟨e1, e2⟩ | ⟨c', v', u', e1, e2, rv'⟩
    · exact e1
    · rw [hn] at e2; cases e2
  · have he : ∃ q, h'.get? a = some q := let ⟨o, _, _, ho, _⟩ := hm'; ⟨o, ho⟩
    refine d_write I (nview_mut g hl) hsb he ?_
    have hne : putN ka k b v ≠ [] := by
      unfold putN
      split
      · rename_i hh
        intro e
        rw [List.map_eq_nil_iff] at e
        subst e
        simp [findN] at hh
      · simp
    rw [if_neg hne]
    refine dN_ok ?_ hs (fun x hx => ?_) (NR.put rel k b rv) hm'
    · have := putN_len ka k b v; omega
    · rcases putN_mem hx with ⟨y, hy, e, _⟩ | ⟨e, _⟩
      · rw [← e]; exact hd y hy
      · rw [e]; exact hk.2.1
theorem n_drop_ok {h' : Heap} {H' : Hp} {a : Addr} {ka : List (NestedKey × Addr × V)} {xs : List (NestedKey × Addr × Value)} {k : NestedKey} (z : ka.length ≤ sizeLine) (hs : (a == sysModules) = false) (hd : ∀ x ∈ ka, x.1.depth ≤ 8) (rel : Paired NR ka xs)
    (hm' : h'.DictOfH (nestedKind X.prog X.w) a (withoutH xs k)) : ObjOk X.prog X.w H' h' a (if dropN ka k = [] then .dK [] else dN X.prog X.w a (dropN ka k)) := by
  have rd := NR.drop rel k
  by_cases e : dropN ka k = []
  · rw [if_pos e]
    rw [e] at rd
    have : withoutH xs k = [] := List.length_eq_zero_iff.mp (Paired.length rd).symm
    rw [this] at hm'
    exact dK0_ok hs hm'
  · rw [if_neg e]
    exact dN_ok (Nat.le_trans (List.length_filter_le _ _) z) hs (fun x hx => hd x (List.mem_filter.mp hx).1) rd hm'
theorem n_delItem {Q : Unit → Shared → Prop} {E : Value → Shared → Prop} (hu : X.A.units + 64 < cLine) (I : Inv X pins σ H s) {a : Addr} {ka : List (NestedKey × Addr × V)} {k : NestedKey} {y : V} {u : Value} (g : NView X H a ka) (hl : ∀ o u, H a ≠ some (.frz o u)) (hk : KeyN X H k y) (ry : RelV y u)
    (hf : (findN ka k).isSome = true) (h : ∀ s', Inv X pins σ (nPut X H a (dropN ka k)) s' → Q () s') : wpAny (model X.prog X.w) X.A (delItem (.ref a) u) Q E s := by
  obtain ⟨b, rfl⟩ := hk.2.2
  cases ry
  obtain ⟨z, hs, hd, xs, rel, hm⟩ := nview_at I g
  rcases NR.find rel k with ⟨e1, e2⟩ | ⟨c', v', u', e1, e2, rv'⟩
  · rw [e1] at hf; cases hf
  · refine wpAny_delItem_heap (nroom hu) (hk.is I) hs hm e2 (fun h' hm' hsb => h _ ?_) (by rw [← Paired.length rel]; exact z)
    have he : ∃ q, h'.get? a = some q := let ⟨o, _, _, ho, _⟩ := hm'; ⟨o, ho⟩
    exact d_write I (nview_mut g hl) hsb he (n_drop_ok z hs hd rel hm')
theorem n_pop {Q : Value → Shared → Prop} {E : Value → Shared → Prop} (hu : X.A.units + 64 < cLine) (I : Inv X pins σ H s) {a : Addr} {ka : List (NestedKey × Addr × V)} {k : NestedKey} {y v : V} {c : Addr} {u : Value} (g : NView X H a ka) (hl : ∀ o u, H a ≠ some (.frz o u)) (hk : KeyN X H k y) (ry : RelV y u)
    (hf : findN ka k = some (c, v)) (h : ∀ w' s', Inv X pins σ (nPut X H a (dropN ka k)) s' → RelV v w' → Q w' s') : wpAny (model X.prog X.w) X.A (call (.builtin "dict.pop") [.ref a, u]) Q E s := by
  obtain ⟨b, rfl⟩ := hk.2.2
  cases ry
  obtain ⟨z, hs, hd, xs, rel, hm⟩ := nview_at I g
  rcases NR.find rel k with ⟨e1, e2⟩ | ⟨c', v', u', e1, e2, rv'⟩
  · rw [e1] at hf; cases hf
  · rw [hf] at e1; cases e1
    refine call_pop_heap (more := []) (.inl rfl) (PySem.F.args_dict_pop_2 _ _) (nroom hu) (hk.is I) hs hm e2 (fun h' hm' hsb => h _ _ ?_ rv') (by rw [← Paired.length rel]; exact z)
    have he : ∃ q, h'.get? a = some q := let ⟨o, _, _, ho, _⟩ := hm'; ⟨o, ho⟩
    exact d_write I (nview_mut g hl) hsb he (n_drop_ok z hs hd rel hm')
end
end KN
set_option maxHeartbeats 200000
namespace KN
open PySem PySem.Spec PyProof.Rows L2
section
variable {X : Cx} {W : WX} {σ : L2.St} {ρ ρ1 : List Addr} {H H1 : Hp} {pins : List (Addr × Obj)} {s : Shared}
/-! ### dicts of the store -/
def leafK (kvs : List (DV × DV)) (k : DV) : Bool := isLeaf k && kvs.all fun p => isLeaf p.1
def keyDeep (k : DV) : Bool := match toNK k with
  | some n => decide (n.depth ≤ 8)
  | none => false
def tupK (kvs : List (DV × DV)) (k : DV) : Bool := isTup k && keyDeep k && kvs.all fun p => isTup p.1
abbrev XRD (X : Cx) (ρ : List Addr) (H : Hp) (a : Addr) (kvs : List (DV × DV)) (u : HO) : Prop := RepD X.prog X.w X.K ρ H a kvs u
theorem dct_view {S : DS} {n : Nat} {a : Addr} {lk : Bool} {kvs : List (DV × DV)} (hr : XHR X ρ H S) (e : S[n]? = some (.dct lk kvs)) (ea : ρ[n]? = some a) : ∃ u, Rd H a u ∧ XRD X ρ H a kvs u := by
  have o := hr.obj n a _ ea e
  cases lk with
  | false =>
    obtain ⟨u, h, r⟩ := o
    exact ⟨u, .inl h, r⟩
  | true =>
    obtain ⟨o', u, h, r⟩ := o
    exact ⟨u, .inr ⟨o', h⟩, r⟩
theorem dct_view0 {S : DS} {n : Nat} {a : Addr} {kvs : List (DV × DV)} (hr : XHR X ρ H S) (e : S[n]? = some (.dct false kvs)) (ea : ρ[n]? = some a) : ∃ u, H a = some u ∧ XRD X ρ H a kvs u := hr.obj n a _ ea e
theorem RepKs.leaf {kvs : List (DV × DV)} {ks : List (Key × V)} (r : RepKs X.K ρ H kvs ks) : kvs.all (fun p => isLeaf p.1) = true := by
  induction r with
  | nil => rfl
  | cons h t ih => rw [List.all_cons, ih, keyR_leaf h.1]; rfl
theorem RepNs.tup {kvs : List (DV × DV)} {ka : List (NestedKey × Addr × V)} (r : RepNs X.K ρ H kvs ka) : kvs.all (fun p => isTup p.1) = true := by
  induction r with
  | nil => rfl
  | cons h t ih => rw [List.all_cons, ih, h.1]; rfl
theorem leaf_tup : ∀ {kvs : List (DV × DV)}, kvs.all (fun p => isLeaf p.1) = true → kvs.all (fun p => isTup p.1) = true → kvs = []
  | [], _, _ => rfl
  | (k, v) :: r, h, g => by
    rw [List.all_cons, Bool.and_eq_true] at h g
    cases k <;> simp [isLeaf, isTup] at h g
theorem repD_leaf {a : Addr} {kvs : List (DV × DV)} {u : HO} (r : XRD X ρ H a kvs u) (h : kvs.all (fun p => isLeaf p.1) = true) : ∃ ks, u = .dK ks ∧ RepKs X.K ρ H kvs ks := by
  rcases r with r | ⟨n, ka, e, r⟩
  · exact r
  · exact absurd (leaf_tup h (RepNs.tup r)) n
theorem RepNs.keys {kvs : List (DV × DV)} {ka : List (NestedKey × Addr × V)} (r : RepNs X.K ρ H kvs ka) : ∀ x ∈ ka, NKv X.K H x.1 (.ref x.2.1) := by
  induction r with
  | nil => intro x hx; cases hx
  | cons h t ih =>
    intro x hx
    rcases List.mem_cons.mp hx with rfl | hx
    · exact nkv_of _ _ _ h.2.1 h.2.2.1
    · exact ih x hx
theorem repD_tup {a : Addr} {kvs : List (DV × DV)} {u : HO} (hu : Rd H a u) (r : XRD X ρ H a kvs u) (h : kvs.all (fun p => isTup p.1) = true) : ∃ ka, NView X H a ka ∧ RepNs X.K ρ H kvs ka := by
  rcases r with ⟨ks, e, r⟩ | ⟨n, ka, e, r⟩
  · have : kvs = [] := leaf_tup (RepKs.leaf r) h
    subst this
    cases r
    exact ⟨[], .inr ⟨e ▸ hu, rfl⟩, .nil⟩
  · exact ⟨ka, .inl ⟨e ▸ hu, r.keys⟩, r⟩
theorem RepNs.find {kvs : List (DV × DV)} {ka : List (NestedKey × Addr × V)} (r : RepNs X.K ρ H kvs ka) {d : DV} {k : NestedKey} (hk : toNK d = some k) :
    (∀ x, dFind kvs d = some x → ∃ c v, findN ka k = some (c, v) ∧ XRep X ρ H x v) ∧ (dFind kvs d = none → findN ka k = none) := by
  induction r with
  | nil => exact ⟨fun x e => by simp [dFind] at e, fun _ => rfl⟩
  | @cons a b l₁ l₂ h t ih =>
    have e1 := toNK_eq h.2.1 hk
    unfold dFind findN at *
    rw [List.find?_cons, List.find?_cons, e1]
    cases decide (b.1 = k) with
    | true => exact ⟨fun x e => by simp at e; subst e; exact ⟨_, _, rfl, h.2.2.2⟩, fun e => by simp at e⟩
    | false => exact ih
theorem keyN_of {d : DV} {v : V} (ht : isTup d = true) (hd : keyDeep d = true) (r : XRep X ρ H d v) : ∃ k, toNK d = some k ∧ KeyN X H k v := by
  unfold keyDeep at hd
  split at hd
  · rename_i n e
    refine ⟨n, e, nkv_of _ _ _ e r, of_decide_eq_true hd, ?_⟩
    cases d <;> simp [isTup] at ht
    obtain ⟨p, vs, rfl, _⟩ := rep_tupE r
    exact ⟨p, rfl⟩
  · cases hd
/-- what the store's dict says of a key -/
def oGet (kvs : List (DV × DV)) (k : DV) : Option (Option DV) := if leafK kvs k || tupK kvs k then some (dFind kvs k) else none
/-- .. and the heap -/
def GetR (X : Cx) (H : Hp) (a : Addr) (y : V) (o : Option V) : Prop := DGet H a y o ∨ ∃ ka k, NView X H a ka ∧ KeyN X H k y ∧ o = (findN ka k).map (·.2)
theorem get_of {S : DS} {n : Nat} {a : Addr} {lk : Bool} {kvs : List (DV × DV)} {d : DV} {y : V} {o : Option DV} (hr : XHR X ρ H S) (e : S[n]? = some (.dct lk kvs)) (ea : ρ[n]? = some a) (g : oGet kvs d = some o) (r : XRep X ρ H d y) :
    (o = none ∧ GetR X H a y none) ∨ ∃ x v, o = some x ∧ GetR X H a y (some v) ∧ XRep X ρ H x v := by
  unfold oGet at g
  split at g
  · rename_i hk
    cases g
    obtain ⟨u, hu, rd⟩ := dct_view hr e ea
    rw [Bool.or_eq_true] at hk
    rcases hk with hk | hk
    · unfold leafK at hk
      rw [Bool.and_eq_true] at hk
      obtain ⟨ks, rfl, rk⟩ := repD_leaf rd hk.2
      have kr := keyR_to hk.1
      have ey := keyR_kV kr r
      obtain ⟨f1, f2⟩ := rk.find kr
      cases hf : dFind kvs d with
      | none => exact .inl ⟨rfl, .inl (.inl ⟨ks, _, hu, ey, (f2 hf).symm⟩)⟩
      | some x =>
        obtain ⟨v, hv, rv⟩ := f1 x hf
        exact .inr ⟨x, v, rfl, .inl (.inl ⟨ks, _, hu, ey, hv.symm⟩), rv⟩
    · unfold tupK at hk
      rw [Bool.and_eq_true, Bool.and_eq_true] at hk
      obtain ⟨ka, nv, rn⟩ := repD_tup hu rd hk.2
      obtain ⟨k, ek, kn⟩ := keyN_of hk.1.1 hk.1.2 r
      obtain ⟨f1, f2⟩ := rn.find ek
      cases hf : dFind kvs d with
      | none => exact .inl ⟨rfl, .inr ⟨ka, k, nv, kn, by rw [f2 hf] <;> rfl⟩⟩
      | some x =>
        obtain ⟨c, v, hv, rv⟩ := f1 x hf
        exact .inr ⟨x, v, rfl, .inr ⟨ka, k, nv, kn, by rw [hv] <;> rfl⟩, rv⟩
  · cases g
theorem nview_ty (I : Inv X pins σ H s) {a : Addr} {ka : List (NestedKey × Addr × V)} (g : NView X H a ka) : s.TypeIs (.ref a) "dict" ∧ (∀ b, Value.ref a = .ref b → ∃ ob, s.heap.get? b = some ob ∧ ob.dict = none) := by
  obtain ⟨_, _, _, xs, _, o, es, ep, ho, hx, _⟩ := nview_at I g
  exact ⟨⟨o, ho, hx.1⟩, fun b q => by cases q; exact ⟨o, ho, hx.2.1⟩⟩
theorem getR_ty (I : Inv X pins σ H s) {a : Addr} {y : V} {o : Option V} (g : GetR X H a y o) : s.TypeIs (.ref a) "dict" ∧ (∀ b, Value.ref a = .ref b → ∃ ob, s.heap.get? b = some ob ∧ ob.dict = none) := by
  rcases g with g | ⟨ka, k, g, _⟩
  · exact ⟨dict_typeIs I g, dict_noDict I g⟩
  · exact nview_ty I g
theorem getR_item {Q : Value → Shared → Prop} {E : Value → Shared → Prop} (hu : X.A.units + 64 < cLine) (I : Inv X pins σ H s) {a : Addr} {y v : V} {u : Value} (g : GetR X H a y (some v)) (ry : RelV y u)
    (h : ∀ w' s', Inv X pins σ H s' → RelV v w' → Q w' s') : wpAny (model X.prog X.w) X.A (getItem (.ref a) u) Q E s := by
  rcases g with g | ⟨ka, k, g, kn, e⟩
  · exact d_getItem (by omega) I g ry h
  · cases hf : findN ka k with
    | none => rw [hf] at e; cases e
    | some p => rw [hf] at e; cases e; exact n_getItem hu I g kn ry (c := p.1) hf h
theorem op_inDict (hu : X.A.units + 64 < cLine) : OpR X (compareOp .In) (fun y x H Q => ∃ a o, x = .ref a ∧ GetR X H a y o ∧ Q (.bl o.isSome) H) := by
  intro pins s σ H y x u v Q I ry rx h
  obtain ⟨a, o, rfl, g, q⟩ := h
  cases rx
  rcases g with g | ⟨ka, k, g, kn, e⟩
  · exact d_in (by omega) I g ry fun s' I' => ⟨.bl _, H, I', rfl, q⟩
  · exact n_in hu I g kn ry fun s' I' => ⟨.bl _, H, I', rfl, by rw [e] at q; simpa using q⟩
theorem op_notInDict (hu : X.A.units + 64 < cLine) : OpR X (compareOp .NotIn) (fun y x H Q => ∃ a o, x = .ref a ∧ GetR X H a y o ∧ Q (.bl (!o.isSome)) H) := by
  intro pins s σ H y x u v Q I ry rx h
  obtain ⟨a, o, rfl, g, q⟩ := h
  cases rx
  rcases g with g | ⟨ka, k, g, kn, e⟩
  · exact d_notIn (by omega) I g ry fun s' I' => ⟨.bl _, H, I', rfl, q⟩
  · exact n_notIn hu I g kn ry fun s' I' => ⟨.bl _, H, I', rfl, by rw [e] at q; simpa using q⟩
/-- x in y, whatever y is -/
def oInA (neg : Bool) : DV → DV → DM DV := fun x y S => match y with
  | .ref n => match S[n]? with
    | some (.dct _ kvs) => match oGet kvs x with
      | some o => .ok (.bl (neg ^^ o.isSome)) S
      | none => .bad
    | _ => oIn neg x y S
  | _ => oIn neg x y S
def rInA (X : Cx) (neg : Bool) : R2 := fun x y H Q => rInQ X.K neg x y H Q ∨ ∃ a o, y = .ref a ∧ GetR X H a x o ∧ Q (.bl (neg ^^ o.isSome)) H
theorem op_inA (hu : X.A.units + 65 < cLine) : OpR X (compareOp .In) (rInA X false) :=
  (op_inQ hu).or fun pins s σ H x y v u Q I rx ry h => op_inDict (by omega) pins s σ H x y v u Q I rx ry (by simpa using h)
theorem op_notInA (hu : X.A.units + 65 < cLine) : OpR X (compareOp .NotIn) (rInA X true) :=
  (op_notInQ hu).or fun pins s σ H x y v u Q I rx ry h => op_notInDict (by omega) pins s σ H x y v u Q I rx ry (by simpa using h)
theorem prim_inA (neg : Bool) : Prim2 X (rInA X neg) (oInA neg) := by
  intro W σ ρ H S x y v u Q hr rx ry q
  unfold oInA at q
  split at q
  · split at q
    · rename_i n _ lk kvs e
      split at q
      · rename_i o eo
        obtain ⟨a, ea, rfl⟩ := rep_refE ry
        have q' := q.ok hr _ rep_b
        rcases get_of hr e ea eo rx with ⟨rfl, g⟩ | ⟨z, v', rfl, g, _⟩
        · exact .inr ⟨a, none, rfl, g, q'⟩
        · exact .inr ⟨a, some v', rfl, g, q'⟩
      · exact q.elim
    · exact .inl (prim_inQ neg W σ ρ H S _ _ v u Q hr rx ry q)
  · exact .inl (prim_inQ neg W σ ρ H S _ _ v u Q hr rx ry q)
/-! ### subscripts -/
theorem ix_dictA (hu : X.A.units + 64 < cLine) : IxR X (fun x y H Q => ∃ a v, x = .ref a ∧ GetR X H a y (some v) ∧ Q v H) := by
  intro value slice pins s σ H x y v u Q I rx ry h hs
  obtain ⟨a, z, rfl, g, q⟩ := h
  obtain rfl : v = Value.ref a := rx
  have ty := (getR_ty I g).1
  unfold subscriptTail
  refine wpAny_bind ?_
  rw [getitemInPython_of_ne ty.not_modules]
  refine wpAny_bind (wpAny_specialOf ty PySem.F.slot_dict_getitem.lookup ?_)
  have fin : wpAny (model X.prog X.w) X.A (subscripted slice false (.ref a) u) (fun r s₃ => wpAny (model X.prog X.w) X.A (letTemporaryGo value (.ref a) r >>= fun _ => pure r) (EP X pins σ Q) X.xe s₃) X.xe s := by
    rw [hs]
    exact wpAny_operating (getR_item hu I g ry fun w' s3 I3 rw' => wpAny_bind (wpAny_letTemporaryGo (wpAny_pure ⟨z, H, I3, rw', q⟩)))
  first
    | exact wpAny_pure (wpAny_bind fin)
    | exact wpAny_bind (wpAny_pure (wpAny_bind fin))
    | exact wpAny_bind fin
def oIx : DV → DV → DM DV
  | .tup l, .int i => fun S => match atI l i with
    | some d => .ok d S
    | none => .bad
  | .str z, .int i => fun S => if z.length ≤ sizeLine then match atI z.cps.toList i with
      | some c => .ok (.str ⟨#[c]⟩) S
      | none => .bad
    else .bad
  | .ref n, k => fun S => match S[n]? with
    | some (.lst l) => match k with
      | .int i => match atI l i with
        | some d => .ok d S
        | none => .bad
      | _ => .bad
    | some (.dct _ kvs) => match oGet kvs k with
      | some (some d) => .ok d S
      | _ => .bad
    | _ => .bad
  | _, _ => fun _ => .bad
def rIxA (X : Cx) : R2 := fun x y H Q => rIx X.K x y H Q ∨ ∃ a v, x = .ref a ∧ GetR X H a y (some v) ∧ Q v H
theorem ix_any (hu : X.A.units + 64 < cLine) : IxR X (rIxA X) := ix_seq.or (ix_dictA hu)
theorem RepVs.atI {l : List DV} {vs : List V} {i : Int} {d : DV} (r : RepVs X.K ρ H l vs) (e : L2.atI l i = some d) : ∃ v, L2.atI vs i = some v ∧ XRep X ρ H d v := by
  unfold L2.atI at e ⊢
  rw [← r.len]
  cases h : ixN l.length i with
  | none => rw [h] at e; cases e
  | some j =>
    rw [h] at e
    exact r.get e
theorem prim_ix : Prim2 X (rIxA X) oIx := by
  intro W σ ρ H S x y v u Q hr rx ry q
  unfold oIx at q
  split at q
  · split at q
    · rename_i d e
      obtain ⟨p, vs, rfl, sv, r1⟩ := rep_tupE rx
      cases rep_int ry
      obtain ⟨v', e1, r2⟩ := r1.atI e
      exact .inl (.inr (.inl ⟨p, vs, _, v', rfl, rfl, sv.sqt, e1, q.ok hr _ r2⟩))
    · exact q.elim
  · split at q
    · rename_i hz
      split at q
      · rename_i c e
        cases rep_str rx
        cases rep_int ry
        exact .inl (.inr (.inr ⟨_, _, c, rfl, rfl, hz, e, q.ok hr _ rep_s⟩))
      · exact q.elim
    · exact q.elim
  · split at q
    · rename_i l e1
      split at q
      · split at q
        · rename_i d e
          obtain ⟨p, ep, rfl⟩ := rep_refE rx
          cases rep_int ry
          obtain ⟨vs, hv, r1⟩ := lst_at hr e1 ep
          obtain ⟨v', e2, r2⟩ := r1.atI e
          exact .inl (.inl ⟨p, vs, _, v', rfl, rfl, .of hv, e2, q.ok hr _ r2⟩)
        · exact q.elim
      · exact q.elim
    · rename_i lk kvs e1
      split at q
      · rename_i d eo
        obtain ⟨p, ep, rfl⟩ := rep_refE rx
        rcases get_of hr e1 ep eo ry with ⟨h, _⟩ | ⟨z, v', h, g, rz⟩
        · cases h
        · cases h
          exact .inr ⟨p, v', rfl, g, q.ok hr _ rz⟩
      · exact q.elim
    · exact q.elim
  · exact q.elim
theorem re_ix {a b : Expr} {ma mb : EM} {pos : Pos} (hu : X.A.units + 64 < cLine) (ha : RE X W a ma) (hb : RE X W b mb) (hs : PlainIx b) : RE X W (.Subscript a b pos) (mBin oIx ma mb) :=
  pe_imp (pe_ix (ix_any hu) ha hb hs) fun _ _ _ h => bin_of prim_ix h
/-! slices -/
abbrev OM := DG → DM (Option Int)
def mNoP : OM := fun _ S => .ok none S
def mPart (m : EM) : OM := fun Γ S => (m Γ S).bind fun d S1 => match d with
  | .int i => .ok (some i) S1
  | _ => .bad
def tOP (X : Cx) (W : WX) (m : OM) : TO := fun σ H Q => ∃ ρ S Γ, XHR X ρ H S ∧ GRel X.K ρ H Γ σ ∧ PostG X W σ ρ H (m Γ S) fun o _ _ H' => Q o H'
abbrev RO (X : Cx) (W : WX) (e : Option Expr) (m : OM) : Prop := PO X e (tOP X W m)
theorem po_imp {e : Option Expr} {t t' : TO} (h : PO X e t) (f : ∀ σ H Q, t' σ H Q → t σ H Q) : PO X e t' := ⟨fun pins s σ H Q I q => h.run pins s σ H Q I (f σ H Q q)⟩
theorem ro_none : RO X W none mNoP := po_imp po_none fun σ H Q ⟨ρ, S, Γ, hr, hg, q⟩ => q.ok hr
theorem ro_some {e : Expr} {m : EM} (h : RE X W e m) : RO X W (some e) (mPart m) := po_imp (po_some h) fun σ H Q ⟨ρ, S, Γ, hr, hg, q⟩ => by
  refine ⟨ρ, S, Γ, hr, hg, q.bind.mono fun d S1 ρ1 H1 x1 hr1 ⟨_, q1⟩ v rv => ?_⟩
  split at q1
  · cases rep_int rv
    exact ⟨_, rfl, q1.ok hr1⟩
  · exact q1.elim
/-- the items of xs[lo:hi] -/
def cutD (xs : List DV) (lo hi : Option Int) : List DV := (xs.drop (HT.sIx xs.length 0 lo)).take (HT.sIx xs.length xs.length hi - HT.sIx xs.length 0 lo)
def oSl (x : DV) (lo hi : Option Int) : DM DV := fun S => match x with
  | .tup l => .ok (.tup (cutD l lo hi)) S
  | .str z => if z.length ≤ sizeLine then .ok (.str (cutS z lo hi)) S else .bad
  | .ref n => match S[n]? with
    | some (.lst l) => newLst (cutD l lo hi) S
    | _ => .bad
  | _ => .bad
def mSl (m : EM) (lo hi : OM) : EM := fun Γ S => (m Γ S).bind fun x S1 => (lo Γ S1).bind fun l S2 => (hi Γ S2).bind fun h S3 => oSl x l h S3
theorem RepVs.cut {l : List DV} {vs : List V} (lo hi : Option Int) (r : RepVs X.K ρ H l vs) : RepVs X.K ρ H (cutD l lo hi) (cutV vs lo hi) := by
  unfold cutD cutV
  rw [← r.len]
  exact (r.drop _).take _
def rSlD (K : PySem.W.Frag) : V → Option Int → Option Int → Hp → VK → Prop := fun x lo hi H Q => ∃ a xs, x = .ref a ∧ SqT K H a xs ∧
  (HT.sIx xs.length 0 lo = 0 ∧ HT.sIx xs.length xs.length hi = xs.length → Q (.ref a) H) ∧ (¬ (HT.sIx xs.length 0 lo = 0 ∧ HT.sIx xs.length xs.length hi = xs.length) → QT H Q (cutV xs lo hi))
theorem sl_tupD : SlR X (rSlD X.K) := by
  intro pins s σ H x v vl vu lo hi sl Q I rx hs pl pu h
  obtain ⟨a, xs, rfl, hx, q1, q2⟩ := h
  cases rx
  obtain ⟨its, r, ht, hz⟩ := I.tuple hx
  have hlen : its.toArray.size = xs.length := by rw [List.size_toArray]; exact r.length.symm
  refine ⟨"tuple", _, PyProof.Rows.slot_tuple_getitem.lookup, ht.typeIs, ?_⟩
  by_cases hw : HT.sIx xs.length 0 lo = 0 ∧ HT.sIx xs.length xs.length hi = xs.length
  · exact getItem_tuple_whole ht hs pl pu (by rw [hlen]; exact hw) ⟨.ref a, H, I, rfl, q1 hw⟩
  · refine HT.getItem_tuple_cut ht hs pl pu (by rw [hlen]; exact hw) ?_ (by rw [hlen]; exact hz)
    rw [hlen]
    exact ⟨.ref s.heap.objs.size, _, I.laid (t' := s.toks) (fun b ob q => Heap.get?_push_of_some _ q) (Nat.le_refl _) (frz_ok (Nat.le_trans (cutV_length xs lo hi) hz) ((r.drop (HT.sIx xs.length 0 lo)).take (HT.sIx xs.length xs.length hi - HT.sIx xs.length 0 lo)) (Heap.get?_push_size _ rfl)), rfl, q2 hw _ _ (I.hok.fresh (Nat.le_refl _)) rfl⟩
def rSlB (K : PySem.W.Frag) : V → Option Int → Option Int → Hp → VK → Prop := fun x lo hi H Q => rSlL K x lo hi H Q ∨ (rSlD K x lo hi H Q ∨ rSlS x lo hi H Q)
theorem sl_any : SlR X (rSlB X.K) := sl_list.or (sl_tupD.or sl_str)
theorem re_slice {e : Expr} {lo hi : Option Expr} {m : EM} {ml mh : OM} {pos p2 : Pos} (he : RE X W e m) (hl : RO X W lo ml) (hh : RO X W hi mh) : RE X W (.Subscript e (.Slice lo hi none p2) pos) (mSl m ml mh) :=
  pe_imp (pe_slice sl_any he hl hh) fun σ H Q ⟨ρ, S, Γ, hr, hg, q⟩ => by
    refine ⟨ρ, S, Γ, hr, hg, q.bind.mono fun x S1 ρ1 H1 x1 hr1 ⟨_, q1⟩ v rv => ?_⟩
    refine ⟨ρ1, S1, Γ, hr1, hg.ext x1, q1.bind.mono fun l S2 ρ2 H2 x2 hr2 ⟨_, q2⟩ => ?_⟩
    refine ⟨ρ2, S2, Γ, hr2, hg.ext (x1.trans x2), q2.bind.mono fun h S3 ρ3 H3 x3 hr3 ⟨_, q3⟩ => ?_⟩
    have rv3 := RepV.ext (x2.trans x3).toV _ _ rv
    unfold oSl at q3
    split at q3
    · obtain ⟨p, vs, rfl, sv, r1⟩ := rep_tupE rv3
      refine .inr (.inl ⟨p, vs, rfl, sv.sqt, fun hw => ?_, fun hw => tup_made hr3 (r1.cut l h) q3⟩)
      refine q3.ok hr3 _ ?_
      have key : ∀ L : List DV, L.length = vs.length → cutD L l h = L := fun L e => by
        unfold cutD
        rw [e, hw.1, hw.2, List.drop_zero, Nat.sub_zero, ← e, List.take_length]
      rw [key _ r1.len]
      exact rv3
    · split at q3
      · rename_i hz
        cases rep_str rv3
        exact .inr (.inr ⟨_, rfl, hz, q3.ok hr3 _ rep_s⟩)
      · exact q3.elim
    · split at q3
      · rename_i l' e1
        obtain ⟨p, ep, rfl⟩ := rep_refE rv3
        obtain ⟨vs, hv, r1⟩ := lst_at hr3 e1 ep
        exact .inl ⟨p, vs, rfl, .of hv, fun p hp => lst_made hr3 (r1.cut l h) q3 hp _ (rep_new hr3)⟩
      · exact q3.elim
    · exact q3.elim
end
end KN
set_option maxHeartbeats 200000
namespace KN
open PySem PySem.Spec PyProof.Rows L2
section
variable {X : Cx} {W : WX} {σ : L2.St} {ρ ρ1 : List Addr} {H H1 : Hp} {pins : List (Addr × Obj)} {s : Shared}
/-! ### a dict's raw entries -/
def entV : HO → List (V × V)
  | .dK ks => ks.map fun p => (kV p.1, p.2)
  | _ => []
def entN (ka : List (NestedKey × Addr × V)) : List (V × V) := ka.map fun x => (.ref x.2.1, x.2.2)
/-- the dict at a is read: es its entries, at V's level -/
def EntV (X : Cx) (H : Hp) (a : Addr) (es : List (V × V)) : Prop :=
  (∃ ks, Rd H a (.dK ks) ∧ es = ks.map fun p => (kV p.1, p.2)) ∨ (∃ ka, Rd H a (dN X.prog X.w a ka) ∧ es = entN ka)
abbrev ER : V × V → DictEntry → Prop := fun p e => RelV p.1 e.key ∧ RelV p.2 e.val
theorem ent_at (I : Inv X pins σ H s) {a : Addr} {es : List (V × V)} (h : EntV X H a es) : es.length ≤ sizeLine ∧ (a == sysModules) = false ∧ ∃ rs ep, s.heap.DictRaw a rs ep ∧ Paired ER es rs.toList := by
  rcases h with ⟨ks, h, rfl⟩ | ⟨ka, h, rfl⟩
  · obtain ⟨z, hs, vs, rel, o, rs, ep, ho, hx, hd, hk, hp, nd⟩ := dk_rd I.hok h
    refine ⟨by rw [List.length_map]; exact z, hs, rs, ep, ⟨o, ho, hx, hd⟩, ?_⟩
    have key : ∀ (ks : List (Key × V)) (vs : List (Key × Value)) (l : List DictEntry), KV ks vs → Pairs (mixKind X.prog X.w) l vs → Paired ER (ks.map fun p => (kV p.1, p.2)) l := by
      intro ks vs l r
      induction r generalizing l with
      | nil => intro p; cases p; exact .nil
      | cons h t ih =>
        intro p
        cases p with
        | cons p1 p2 p3 =>
          refine .cons ⟨?_, by rw [p2]; exact h.2⟩ (ih _ p3)
          show RelV (kV _) _
          rw [h.1]
          exact relV_key p1
    exact key ks vs rs.toList rel hp
  · obtain ⟨q, _, _⟩ := (show ObjOk X.prog X.w H s.heap a (.ext (rawN X.prog X.w a ka)) from h.ok I.hok)
    obtain ⟨z, hs, hd, xs, rel, o, rs, ep, ho, hx, hdat, he, nd⟩ := q
    refine ⟨by unfold entN; rw [List.length_map]; exact z, hs, rs, ep, ⟨o, ho, hx, hdat⟩, ?_⟩
    rw [he]
    have key : ∀ (ka : List (NestedKey × Addr × V)) (xs : List (NestedKey × Addr × Value)), Paired NR ka xs → Paired ER (entN ka) (xs.map (entryOfKey (nestedKind X.prog X.w))) := by
      intro ka xs r
      induction r with
      | nil => exact .nil
      | cons h t ih =>
        refine .cons ⟨?_, h.2.2⟩ ih
        show RelV (.ref _) (Value.ref _)
        rw [h.2.1]
        exact rfl
    exact key ka xs rel
/-- entries of the store and of the heap -/
abbrev XKV (X : Cx) (ρ : List Addr) (H : Hp) (kvs : List (DV × DV)) (es : List (V × V)) : Prop := Paired (fun p q => XRep X ρ H p.1 q.1 ∧ XRep X ρ H p.2 q.2) kvs es
theorem ent_of {S : DS} {n : Nat} {a : Addr} {lk : Bool} {kvs : List (DV × DV)} (hr : XHR X ρ H S) (e : S[n]? = some (.dct lk kvs)) (ea : ρ[n]? = some a) : ∃ es, EntV X H a es ∧ XKV X ρ H kvs es := by
  obtain ⟨u, hu, r⟩ := dct_view hr e ea
  rcases r with ⟨ks, rfl, r⟩ | ⟨n, ka, rfl, r⟩
  · refine ⟨_, .inl ⟨ks, hu, rfl⟩, ?_⟩
    clear e hu
    induction r with
    | nil => exact .nil
    | @cons a b l1 l2 h t ih =>
      refine .cons ⟨?_, h.2⟩ ih
      obtain ⟨d, x⟩ := a
      obtain ⟨k, v⟩ := b
      cases d <;> cases k <;> first | exact h.1.elim | skip
      · have q := h.1; simp only [keyR] at q; subst q; exact rep_i
      · have q := h.1; simp only [keyR] at q; subst q; exact rep_s
  · refine ⟨_, .inr ⟨ka, hu, rfl⟩, ?_⟩
    clear e hu n
    induction r with
    | nil => exact .nil
    | @cons a b l1 l2 h t ih => exact .cons ⟨h.2.2.1, h.2.2.2⟩ ih
theorem XKV.keys {kvs : List (DV × DV)} {es : List (V × V)} (r : XKV X ρ H kvs es) : RepVs X.K ρ H (kvs.map (·.1)) (es.map (·.1)) := by
  induction r with
  | nil => exact .nil
  | cons h t ih => exact .cons h.1 ih
theorem XKV.vals {kvs : List (DV × DV)} {es : List (V × V)} (r : XKV X ρ H kvs es) : RepVs X.K ρ H (kvs.map (·.2)) (es.map (·.2)) := by
  induction r with
  | nil => exact .nil
  | cons h t ih => exact .cons h.2 ih
theorem ER.keys {es : List (V × V)} {rs : List DictEntry} (r : Paired ER es rs) : Vals (es.map (·.1)) (rs.map (·.key)) := by
  induction r with
  | nil => exact .nil
  | cons h t ih => exact .cons h.1 ih
/-! ### calls of built-ins by name -/
def mCallB (p : List DV → DM DV) (r : AM) : EM := fun Γ S => (r Γ S).bind fun ds S1 => p ds S1
def PrimN (X : Cx) (r : List V → Hp → VK → Prop) (p : List DV → DM DV) : Prop := ∀ (W : WX) (σ : L2.St) ρ H S ds vs Q, XHR X ρ H S → RepVs X.K ρ H ds vs →
  (PostG X W σ ρ H (p ds S) fun d _ ρ' H' => ∀ v, XRep X ρ' H' d v → Q v H') → r vs H Q
theorem callB_of {r : List V → Hp → VK → Prop} {p : List DV → DM DV} (hp : PrimN X r p) {m : AM} {σ : L2.St} {H : Hp} {Q : VK} (h : tO X W (mCallB p m) σ H Q) : tCB r (tA X W m) σ H Q := by
  obtain ⟨ρ, S, Γ, hr, hg, q⟩ := h
  exact ⟨ρ, S, Γ, hr, hg, q.bind.mono fun ds S1 ρ1 H1 x1 hr1 ⟨_, q1⟩ vs rvs => hp W σ ρ1 H1 S1 ds vs Q hr1 rvs q1⟩
theorem re_callB {x : Str} {id : String} {r : List V → Hp → VK → Prop} {p : List DV → DM DV} {e : Expr} {es : List Expr} {m : AM} {np pos : Pos} (hc : CallR X (.builtin id) r) (hp : PrimN X r p) (hg : Gl X x) (hm : X.mg x = none) (hv : bootBuiltins x = some (.builtin id)) (ha : RA X W (e :: es) m) (hn : x ≠ "__name__") (hdb : (x == ("__debug__" : Str)) = false)
    (he : starEach (e :: es) X.env = (false, eval e X.env) :: starEach es X.env) (hpl : (backTo pos (starEach es X.env)).any (·.1) = false) : RE X W (.Call (.Name x np) (e :: es) [] pos) (mCallB p m) :=
  pe_imp (pe_callB hc hg hm hv ha hn hdb he hpl) fun _ _ _ h => callB_of hp h
theorem re_callTy {x : Str} {T : String} {r : List V → Hp → VK → Prop} {p : List DV → DM DV} {e : Expr} {es : List Expr} {m : AM} {np pos : Pos} (hc : CallR X (.type T) r) (hp : PrimN X r p) (hg : Gl X x) (hm : X.mg x = none) (hv : bootBuiltins x = some (.type T)) (ha : RA X W (e :: es) m) (hn : x ≠ "__name__") (hdb : (x == ("__debug__" : Str)) = false)
    (he : starEach (e :: es) X.env = (false, eval e X.env) :: starEach es X.env) (hpl : (backTo pos (starEach es X.env)).any (·.1) = false) : RE X W (.Call (.Name x np) (e :: es) [] pos) (mCallB p m) :=
  pe_imp (pe_callTy hc hg hm hv ha hn hdb he hpl) fun _ _ _ h => callB_of hp h
theorem reps1 {d : DV} {vs : List V} (r : RepVs X.K ρ H [d] vs) : ∃ v, vs = [v] ∧ XRep X ρ H d v := by
  rw [RepVs] at r
  obtain ⟨v, r', rfl, h, r2⟩ := r
  rw [RepVs] at r2
  subst r2
  exact ⟨v, rfl, h⟩
theorem reps2 {d e : DV} {vs : List V} (r : RepVs X.K ρ H [d, e] vs) : ∃ v u, vs = [v, u] ∧ XRep X ρ H d v ∧ XRep X ρ H e u := by
  rw [RepVs] at r
  obtain ⟨v, r', rfl, h, r2⟩ := r
  obtain ⟨u, rfl, h2⟩ := reps1 r2
  exact ⟨v, u, rfl, h, h2⟩
/-! len -/
theorem call_lenR : CallR X (.builtin "len") (fun xs H Q => ∃ a es, xs = [.ref a] ∧ EntV X H a es ∧ Q (.int es.length) H) := by
  intro pins s σ H xs us Q I r h
  obtain ⟨a, es, rfl, g, q⟩ := h
  obtain ⟨u, rfl, rx⟩ := vals1 r
  cases rx
  obtain ⟨z, hs, rs, ep, hm, rel⟩ := ent_at I g
  have el0 : es.length = rs.size := (Paired.length rel).trans (by simp)
  have el : (rs.size : Int) = (es.length : Int) := by omega
  have hn := line63
  refine call_len_slot (n := rs.size) hm.typeIs PySem.F.slot_dict_len (fun Q' hq => call_len_raw hs hm hq) (by omega) (by omega) ⟨.int es.length, H, I.tok _, ⟨s.toks + 1, by rw [el]⟩, q⟩
def oLen : List DV → DM DV
  | [x] => fun S => match x with
    | .tup l => .ok (.int l.length) S
    | .str z => if z.length ≤ sizeLine then .ok (.int z.length) S else .bad
    | .ref n => match S[n]? with
      | some (.lst l) => .ok (.int l.length) S
      | some (.dct _ kvs) => .ok (.int kvs.length) S
      | _ => .bad
    | _ => .bad
  | _ => fun _ => .bad
def rLenA (X : Cx) : List V → Hp → VK → Prop := fun xs H Q => (∃ p ys, xs = [.ref p] ∧ (SqL X.K H p ys ∨ SqT X.K H p ys) ∧ Q (.int ys.length) H) ∨ ((∃ z, xs = [.str z] ∧ z.length ≤ sizeLine ∧ Q (.int z.length) H) ∨ (∃ a es, xs = [.ref a] ∧ EntV X H a es ∧ Q (.int es.length) H))
theorem call_lenA : CallR X (.builtin "len") (rLenA X) := call_len_seq.or (call_len_str.or call_lenR)
theorem prim_len : PrimN X (rLenA X) oLen := by
  intro W σ ρ H S ds vs Q hr rv q
  unfold oLen at q
  split at q
  · rename_i x
    obtain ⟨v, rfl, r⟩ := reps1 rv
    split at q
    · obtain ⟨p, vs, rfl, sv, r1⟩ := rep_tupE r
      rw [r1.len] at q
      exact .inl ⟨p, vs, rfl, .inr sv.sqt, q.ok hr _ rep_i⟩
    · split at q
      · rename_i hz
        cases rep_str r
        exact .inr (.inl ⟨_, rfl, hz, q.ok hr _ rep_i⟩)
      · exact q.elim
    · split at q
      · rename_i l e1
        obtain ⟨p, ep, rfl⟩ := rep_refE r
        obtain ⟨vs, hv, r1⟩ := lst_at hr e1 ep
        rw [r1.len] at q
        exact .inl ⟨p, vs, rfl, .inl (.of hv), q.ok hr _ rep_i⟩
      · rename_i lk kvs e1
        obtain ⟨p, ep, rfl⟩ := rep_refE r
        obtain ⟨es, g, rel⟩ := ent_of hr e1 ep
        rw [Paired.length rel] at q
        exact .inr (.inr ⟨p, es, rfl, g, q.ok hr _ rep_i⟩)
      · exact q.elim
    · exact q.elim
  · exact q.elim
/-! abs, int -/
def oAbs : List DV → DM DV
  | [.int i] => fun S => .ok (.int (if i < 0 then -i else i)) S
  | _ => fun _ => .bad
theorem prim_abs : PrimN X (fun xs H Q => ∃ i, xs = [.int i] ∧ Q (.int (if i < 0 then -i else i)) H) oAbs := by
  intro W σ ρ H S ds vs Q hr rv q
  unfold oAbs at q
  split at q
  · obtain ⟨v, rfl, r⟩ := reps1 rv
    cases rep_int r
    exact ⟨_, rfl, q.ok hr _ rep_i⟩
  · exact q.elim
def oInt : List DV → DM DV
  | [.int i] => fun S => .ok (.int i) S
  | [.bl b] => fun S => .ok (.int (if b then 1 else 0)) S
  | [.str z] => fun S => match PySem.intText? z with
    | some n => if z.length ≤ 640 then .ok (.int n) S else .bad
    | none => .bad
  | _ => fun _ => .bad
def rIntA : List V → Hp → VK → Prop := fun xs H Q => ((∃ i, xs = [.int i] ∧ Q (.int i) H) ∨ ∃ k, xs = [.bl k] ∧ Q (.int (if k then 1 else 0)) H) ∨ (∃ z n, xs = [.str z] ∧ PySem.intText? z = some n ∧ z.length ≤ 640 ∧ Q (.int n) H)
theorem prim_int : PrimN X rIntA oInt := by
  intro W σ ρ H S ds vs Q hr rv q
  unfold oInt at q
  split at q
  · obtain ⟨v, rfl, r⟩ := reps1 rv
    cases rep_int r
    exact .inl (.inl ⟨_, rfl, q.ok hr _ rep_i⟩)
  · obtain ⟨v, rfl, r⟩ := reps1 rv
    cases rep_bl r
    exact .inl (.inr ⟨_, rfl, q.ok hr _ rep_i⟩)
  · split at q
    · rename_i n e
      split at q
      · obtain ⟨v, rfl, r⟩ := reps1 rv
        cases rep_str r
        exact .inr ⟨_, n, rfl, e, by assumption, q.ok hr _ rep_i⟩
      · exact q.elim
    · exact q.elim
  · exact q.elim
/-! list, tuple -/
theorem call_listR (hc : X.calm = true) : CallR X (.type "list") (fun xs H Q => ∃ a es, xs = [.ref a] ∧ EntV X H a es ∧ ∀ p, H p = none → Q (.ref p) (upd H p (.lst (es.map (·.1))))) := by
  intro pins s σ H xs us Q I r h
  obtain ⟨a, es, rfl, g, q⟩ := h
  obtain ⟨u, rfl, rx⟩ := vals1 r
  cases rx
  obtain ⟨z, hs, rs, ep, hm, rel⟩ := ent_at I g
  have el : es.length = rs.size := (Paired.length rel).trans (by simp)
  refine PySem.W.kdl_call (KdlSrc.rawDict hs) (I.ok.hd hc) hm (by rw [← el]; exact z) fun h' tk acc' c' hk hS hacc => ?_
  have hacc' : acc'.toList = rs.toList.map (·.key) := by
    apply List.ext_getElem?
    intro i
    rw [List.getElem?_map]
    by_cases hi : i < acc'.size
    · have e1 : acc'[i]? = some acc'[i] := Array.getElem?_eq_getElem hi
      obtain ⟨hi2, e2⟩ := hacc.2 i _ e1
      rw [Array.getElem?_toList, e1, Array.getElem?_toList, Array.getElem?_eq_getElem hi2]
      exact congrArg some e2
    · rw [List.getElem?_eq_none (by rw [Array.length_toList]; omega), List.getElem?_eq_none (by rw [Array.length_toList]; have := hacc.1; omega)]
      rfl
  have rv : Vals (es.map (·.1)) acc'.toList := by rw [hacc']; exact ER.keys rel
  have new : ObjOk X.prog X.w (upd H s.heap.objs.size (.lst (es.map (·.1)))) h' s.heap.objs.size (.lst (es.map (·.1))) := ⟨by rw [List.length_map]; exact z, acc'.toList, c', rv, by simpa using hS⟩
  exact ⟨.ref s.heap.objs.size, _, I.laid (t' := tk) hk (Nat.le_refl _) new, rfl, q _ (I.hok.fresh (Nat.le_refl _))⟩
def oList : List DV → DM DV
  | [x] => fun S => match itemsOf S x with
    | some l => newLst l S
    | none => match x with
      | .ref n => match S[n]? with
        | some (.dct _ kvs) => newLst (kvs.map (·.1)) S
        | _ => .bad
      | _ => .bad
  | _ => fun _ => .bad
def rListA (X : Cx) : List V → Hp → VK → Prop := fun xs H Q => (∃ p ys, xs = [.ref p] ∧ (SqL X.K H p ys ∨ SqT X.K H p ys) ∧ ∀ l, H l = none → Q (.ref l) (upd H l (.lst ys))) ∨ (∃ a es, xs = [.ref a] ∧ EntV X H a es ∧ ∀ p, H p = none → Q (.ref p) (upd H p (.lst (es.map (·.1)))))
theorem call_listA (hc : X.calm = true) : CallR X (.type "list") (rListA X) := call_list_of.or (call_listR hc)
theorem prim_list : PrimN X (rListA X) oList := by
  intro W σ ρ H S ds vs Q hr rv q
  unfold oList at q
  split at q
  · rename_i x
    obtain ⟨v, rfl, r⟩ := reps1 rv
    split at q
    · rename_i l e
      obtain ⟨p, vs, rfl, sv, r1⟩ := itemsOf_rep hr e r
      exact .inl ⟨p, vs, rfl, sv, fun z hz => lst_made hr r1 q hz _ (rep_new hr)⟩
    · split at q
      · split at q
        · rename_i n _ lk kvs e1
          obtain ⟨p, ep, rfl⟩ := rep_refE r
          obtain ⟨es, g, rel⟩ := ent_of hr e1 ep
          exact .inr ⟨p, es, rfl, g, fun z hz => lst_made hr rel.keys q hz _ (rep_new hr)⟩
        · exact q.elim
      · exact q.elim
  · exact q.elim
def oTuple : List DV → DM DV
  | [x] => fun S => match itemsOf S x with
    | some l => .ok (.tup l) S
    | none => .bad
  | _ => fun _ => .bad
def rTupA (K : PySem.W.Frag) : List V → Hp → VK → Prop := fun xs H Q => ∃ p ys, xs = [.ref p] ∧ ((SqL K H p ys ∧ QT H Q ys) ∨ (SqT K H p ys ∧ Q (.ref p) H))
theorem call_tupD : CallR X (.type "tuple") (rTupA X.K) := by
  intro pins s σ H xs us Q I r h
  obtain ⟨p, ys, rfl, h⟩ := h
  obtain ⟨u, rfl, rx⟩ := vals1 r
  cases rx
  rcases h with ⟨hq, q⟩ | ⟨hq, q⟩
  · obtain ⟨its, r', pl, hz⟩ := I.list hq
    have hlen := r'.length
    refine call_tuple_list pl.isList (fun h' kp => ?_) (by simp only [List.size_toArray] <;> omega)
    have I1 : Inv X pins σ H { s with heap := h' } := I.kept (t' := s.toks) kp
    exact ⟨.ref h'.objs.size, _, I1.laid (t' := s.toks) (fun b o e => Heap.get?_push_of_some _ e) (Nat.le_refl _) (frz_ok hz r' (Heap.get?_push_size _ rfl)), rfl, q _ _ (I1.hok.fresh (Nat.le_refl _)) rfl⟩
  · obtain ⟨its, r', pl, hz⟩ := I.tuple hq
    exact call_tuple_same pl ⟨.ref p, H, I, rfl, q⟩
theorem prim_tuple : PrimN X (rTupA X.K) oTuple := by
  intro W σ ρ H S ds vs Q hr rv q
  unfold oTuple at q
  split at q
  · rename_i x
    obtain ⟨v, rfl, r⟩ := reps1 rv
    split at q
    · rename_i l e
      cases x <;> simp [itemsOf] at e
      case tup l' =>
        subst e
        obtain ⟨p, vs, rfl, sv, r1⟩ := rep_tupE r
        exact ⟨p, vs, rfl, .inr ⟨sv.sqt, q.ok hr _ r⟩⟩
      case ref n =>
        split at e
        · rename_i l' e1
          cases e
          obtain ⟨p, ep, rfl⟩ := rep_refE r
          obtain ⟨vs, hv, r1⟩ := lst_at hr e1 ep
          exact ⟨p, vs, rfl, .inl ⟨.of hv, tup_made hr r1 q⟩⟩
        · cases e
    · exact q.elim
  · exact q.elim
/-! any, all -/
def blsOf : List DV → Option (List Bool)
  | [] => some []
  | .bl b :: r => (blsOf r).map (b :: ·)
  | _ :: _ => none
theorem bls_rep : ∀ {l : List DV} {bs : List Bool} {vs : List V}, blsOf l = some bs → RepVs X.K ρ H l vs → vs = bs.map V.bl
  | [], bs, vs, e, r => by cases e; rw [RepVs] at r; exact r
  | d :: ds, bs, vs, e, r => by
    rw [RepVs] at r
    obtain ⟨v, us, rfl, r1, r2⟩ := r
    cases d <;> simp [blsOf] at e
    obtain ⟨cs, e1, rfl⟩ := e
    cases rep_bl r1
    rw [bls_rep e1 r2]
    rfl
def oAny : List DV → DM DV
  | [.ref n] => fun S => match S[n]? with
    | some (.lst l) => match blsOf l with
      | some bs => .ok (.bl (bs.any id)) S
      | none => .bad
    | _ => .bad
  | _ => fun _ => .bad
def oAll : List DV → DM DV
  | [.ref n] => fun S => match S[n]? with
    | some (.lst l) => match blsOf l with
      | some bs => .ok (.bl (bs.all id)) S
      | none => .bad
    | _ => .bad
  | _ => fun _ => .bad
theorem prim_any : PrimN X (rAny X.K) oAny := by
  intro W σ ρ H S ds vs Q hr rv q
  unfold oAny at q
  split at q
  · obtain ⟨v, rfl, r⟩ := reps1 rv
    split at q
    · rename_i l e1
      split at q
      · rename_i bs e2
        obtain ⟨p, ep, rfl⟩ := rep_refE r
        obtain ⟨vs, hv, r1⟩ := lst_at hr e1 ep
        have := bls_rep e2 r1
        subst this
        exact ⟨p, bs, rfl, .of hv, q.ok hr _ rep_b⟩
      · exact q.elim
    · exact q.elim
  · exact q.elim
theorem prim_all : PrimN X (rAll X.K) oAll := by
  intro W σ ρ H S ds vs Q hr rv q
  unfold oAll at q
  split at q
  · obtain ⟨v, rfl, r⟩ := reps1 rv
    split at q
    · rename_i l e1
      split at q
      · rename_i bs e2
        obtain ⟨p, ep, rfl⟩ := rep_refE r
        obtain ⟨vs, hv, r1⟩ := lst_at hr e1 ep
        have := bls_rep e2 r1
        subst this
        exact ⟨p, bs, rfl, .of hv, q.ok hr _ rep_b⟩
      · exact q.elim
    · exact q.elim
  · exact q.elim
/-! str of an int -/
def oStr : List DV → DM DV
  | [.int i] => fun S => if i.natAbs.log2 < 1920 then .ok (.str (toString i)) S else .bad
  | _ => fun _ => .bad
theorem prim_str : PrimN X (fun xs H Q => ∃ i, xs = [.int i] ∧ i.natAbs.log2 < 1920 ∧ Q (.str (toString i)) H) oStr := by
  intro W σ ρ H S ds vs Q hr rv q
  unfold oStr at q
  split at q
  · split at q
    · obtain ⟨v, rfl, r⟩ := reps1 rv
      cases rep_int r
      exact ⟨_, rfl, by assumption, q.ok hr _ rep_s⟩
    · exact q.elim
  · exact q.elim
end
end KN
set_option autoImplicit false
set_option maxHeartbeats 200000
namespace KN
open PySem PySem.Spec PyProof.Rows L2
/-! ### a def's plain promise -/
section
variable (P : Program) (w : World) (K : PySem.W.Frag) (mg : Str → Option Value)
def ExcC (ρ : List Addr) (H : Hp) (c : Str) (fs : List (Str × DV)) (cls : Value) (d : Option Addr) : Prop :=
  mg c = some cls ∧ ((fs = [] ∧ d = none) ∨ ∃ a us, d = some a ∧ H a = some (.xd us) ∧ RepFs K ρ H fs us)
def PostC {α : Type} (E : XK) (ρ : List Addr) (H : Hp) (r : DR α) (G : α → DS → List Addr → Hp → Prop) : Prop :=
  match r with
  | .ok a S => ∀ ρ' H', Ext ρ H ρ' H' → HRel P w K mg ρ' H' S → G a S ρ' H'
  | .exc c fs S => ∀ ρ' H' cls d, Ext ρ H ρ' H' → HRel P w K mg ρ' H' S → ExcC K mg ρ' H' c fs cls d → E cls d H'
  | .bad => False
abbrev DFn := List DV → DM DV
def spOf (n : Nat) (g : DFn) : Sp := fun vs H Q E => vs.length = n ∧ ∃ ρ S ds, HRel P w K mg ρ H S ∧ RepVs K ρ H ds vs ∧ PostC P w K mg E ρ H (g ds S) fun d _ ρ' H' => ∀ v, RepV K ρ' H' d v → Q v H'
end
theorem postC_of {X : Cx} {W : WX} {σ : L2.St} {α : Type} {ρ : List Addr} {H : Hp} {r : DR α} {G : α → DS → List Addr → Hp → Prop} (h : PostG X W σ ρ H r G) : PostC X.prog X.w X.K X.mg (WE W σ) ρ H r G := by
  cases r <;> exact h
theorem postG_of {X : Cx} {W : WX} {σ : L2.St} {α : Type} {ρ : List Addr} {H : Hp} {r : DR α} {G : α → DS → List Addr → Hp → Prop} {E : XK} (h : PostC X.prog X.w X.K X.mg E ρ H r G) (hW : ∀ c d H, E c d H → W c d σ H) : PostG X W σ ρ H r G := by
  cases r with
  | ok a S => exact h
  | exc c fs S => exact fun ρ' H' cls d x hr e => hW _ _ _ (h ρ' H' cls d x hr e)
  | bad => exact h
abbrev SpX (X : Cx) (n : Nat) (g : DFn) : Sp := spOf X.prog X.w X.K X.mg n g
theorem make_run {X : Cx} {CX : CXT} {k : Nat} {f C : Addr} {fd : FuncData} {ps : List Str} {sp : Sp} {dvs : List V} {ds : List Value} {E : XK} {pins : List (Addr × Obj)} {σ : L2.St} {H : Hp} {s : Shared} {Q : VK} {us : List Value} {vs : List V} (M : Mk X.K C f) (F : FnOk X.prog X.w X.K X.mg X.base CX k f fd ps sp) (hr : Room (k + 1) X.A) (hb : Binds X.K fd ps ds) (hd : Vals dvs ds)
    (hx : PassesAt CX X σ E) (I : Inv X pins σ H s) (r : Vals vs us)
    (h : ∀ x dx, H x = none → H dx = none → dx ≠ x → sp (.ref x :: (vs ++ dvs)) (upd (upd H dx (.own x)) x (.ins C dx [])) (fun v H2 => v = .non ∧ Q (.ref x) H2) E) :
    wpAny (model X.prog X.w) X.A (call (.ref C) us) (EP X pins σ Q) X.xe s := by
  have hq := h (s.heap.objs.size + 1) s.heap.objs.size (I.hok.fresh (Nat.le_succ _)) (I.hok.fresh (Nat.le_refl _)) (Nat.ne_of_lt (Nat.lt_succ_self _))
  have I2 := Inv.made (C := C) I
  have r2 : Vals (V.ref (s.heap.objs.size + 1) :: (vs ++ dvs)) (Value.ref (s.heap.objs.size + 1) :: (us ++ ds)) := .cons rfl (r.append hd)
  have hl : (Value.ref (s.heap.objs.size + 1) :: us ++ ds).length = ps.length := by
    have e := r2.length
    rw [F.len _ _ _ _ hq] at e
    exact e.symm
  refine wpAny_call (make_map (f := f) I.kIn M.makes M.init (beq_iff_eq.mp M.fn) (codeAny_mono (F.run _ X.stack _ _ ⟨Value.ref (s.heap.objs.size + 1) :: us, []⟩ (Value.ref (s.heap.objs.size + 1) :: (us ++ ds)) _ _ E (hr.make C us [])
    (I2.env0.make C us []) (hb _ (Value.ref (s.heap.objs.size + 1) :: us) I2.kIn hl) r2 hq) fun r s' hq' => ?_))
  cases r with
  | error e => exact hx pins _ _ e s' I2 hq'
  | ok fl =>
    cases fl with
    | ret u =>
      obtain ⟨v, H', I3, rv, ev, q3⟩ := I2.after hq'
      subst ev
      exact ⟨rv, ⟨V.ref (s.heap.objs.size + 1), H', I3, rfl, q3⟩⟩
    | next => exact False.elim hq'
    | brk => exact False.elim hq'
    | cont => exact False.elim hq'
section
variable {X : Cx} {W : WX} {σ : L2.St} {ρ ρ1 : List Addr} {H H1 : Hp} {pins : List (Addr × Obj)} {s : Shared}
/-- what a def of the text must be, to be called from X with the defaults dd, n parameters in all -/
structure FnX (X : Cx) (f : Addr) (n : Nat) (dd : List DV) (g : DFn) : Prop where
  ar : ∀ ds S, ds.length ≠ n → g ds S = .bad
  run : ∃ fd ps k ds dvs, FnOk X.prog X.w X.K X.mg X.base (L2.CX X.prog X.w) k f fd ps (SpX X n g) ∧ Room (k + 1) X.A ∧ Binds X.K fd ps ds ∧ Vals dvs ds ∧ (∀ ρ H, RepVs X.K ρ H dd dvs)
def mCallF (g : DFn) (dd : List DV) (m : AM) : EM := fun Γ S => (m Γ S).bind fun ds S1 => g (ds ++ dd) S1
theorem spCall {n : Nat} {g : DFn} {dd : List DV} {dvs : List V} {ds : List DV} {vs : List V} {S : DS} {Q : VK} (ar : ∀ ds S, ds.length ≠ n → g ds S = .bad) (hr : XHR X ρ H S) (r : RepVs X.K ρ H ds vs) (rd : RepVs X.K ρ H dd dvs)
    (q : PostG X W σ ρ H (g (ds ++ dd) S) fun d _ ρ' H' => ∀ v, XRep X ρ' H' d v → Q v H') : SpX X n g (vs ++ dvs) H Q (WE W σ) := by
  have r2 := r.append rd
  refine ⟨?_, ρ, S, ds ++ dd, hr, r2, postC_of q⟩
  rw [← r2.len]
  by_cases h : (ds ++ dd).length = n
  · exact h
  · rw [ar _ _ h] at q
    exact q.elim
theorem call_of {n : Nat} {g : DFn} {dd : List DV} {dvs : List V} {m : AM} {Q : VK} (ar : ∀ ds S, ds.length ≠ n → g ds S = .bad) (rd : ∀ ρ H, RepVs X.K ρ H dd dvs) (h : tO X W (mCallF g dd m) σ H Q) : tCallSD (SpX X n g) dvs (WE W) (tA X W m) σ H Q := by
  obtain ⟨ρ, S, Γ, hr, hg, q⟩ := h
  refine ⟨ρ, S, Γ, hr, hg, q.bind.mono fun ds S1 ρ1 H1 x1 hr1 ⟨_, q1⟩ vs rvs => ?_⟩
  exact spCall ar hr1 rvs (rd _ _) q1
theorem re_callF {f : Addr} {n : Nat} {dd : List DV} {g : DFn} {x : Str} {p pos : Pos} {e : Expr} {es : List Expr} {m : AM} (F : FnX X f n dd g) (tk : Takes X W) (hg : Gl X x) (hm : X.mg x = some (.ref f)) (hk : PySem.W.keepIn X.K (.ref f) = true)
    (ha : RA X W (e :: es) m) (hdb : (x == ("__debug__" : Str)) = false) (he : starEach (e :: es) X.env = (false, eval e X.env) :: starEach es X.env) (hpl : (backTo pos (starEach es X.env)).any (·.1) = false) :
    RE X W (.Call (.Name x p) (e :: es) [] pos) (mCallF g dd m) := by
  obtain ⟨fd, ps, k, ds, dvs, F1, hr, hb, hd, rd⟩ := F.run
  exact pe_imp (pe_callSD F1 (hr.mono (Nat.le_succ _)) hg hm hk hb hd (fun σ => passAt tk σ) ha hdb he hpl) fun _ _ _ h => call_of F.ar rd h
theorem re_callF0 {f : Addr} {n : Nat} {dd : List DV} {g : DFn} {x : Str} {p pos : Pos} (F : FnX X f n dd g) (tk : Takes X W) (hg : Gl X x) (hm : X.mg x = some (.ref f)) (hk : PySem.W.keepIn X.K (.ref f) = true) (hdb : (x == ("__debug__" : Str)) = false) :
    RE X W (.Call (.Name x p) [] [] pos) (mCallF g dd mNil) := by
  obtain ⟨fd, ps, k, ds, dvs, F1, hr, hb, hd, rd⟩ := F.run
  refine ⟨fun pins s σ H Q I h => ?_⟩
  have h' := call_of F.ar rd h
  obtain ⟨ρ, S, Γ, hr', hg', q⟩ := h'
  refine wpAny_Call_Name_kw (ld_glob I hg hm ?_ hdb)
  exact PySem.W.callWith_K0 I.kIn hk (run_fnSD (us := []) F1 (hr.mono (Nat.le_succ _)) hb hd (passAt tk σ) I .nil (q.ok hr' [] .nil))
/-! ### instances -/
theorem ins_at {S : DS} {n : Nat} {c : Str} {fs : List (Str × DV)} {a : Addr} (hr : XHR X ρ H S) (e : S[n]? = some (.ins c fs)) (ea : ρ[n]? = some a) : ∃ C dx us, X.mg c = some (.ref C) ∧ H a = some (.ins C dx us) ∧ RepFs X.K ρ H fs us := hr.obj n a _ ea e
theorem RepFs.lookup {fs : List (Str × DV)} {us : List (Str × V)} (r : RepFs X.K ρ H fs us) (f : Str) : (∀ d, fs.lookup f = some d → ∃ v, us.lookup f = some v ∧ XRep X ρ H d v) ∧ (fs.lookup f = none → us.lookup f = none) := by
  induction r with
  | nil => exact ⟨fun d e => (nomatch e), fun _ => rfl⟩
  | @cons a b l1 l2 h t ih =>
    obtain ⟨x, d⟩ := a
    obtain ⟨y, v⟩ := b
    obtain ⟨e1, r1⟩ := h
    dsimp only at e1
    subst e1
    rw [List.lookup_cons, List.lookup_cons]
    cases f == x with
    | true => exact ⟨fun d e => by cases e; exact ⟨v, rfl, r1⟩, fun e => (nomatch e)⟩
    | false => exact ih
theorem RepFs.len {fs : List (Str × DV)} {us : List (Str × V)} (r : RepFs X.K ρ H fs us) : fs.length = us.length := Paired.length r
def putD (f : Str) (v : DV) : List (Str × DV) → List (Str × DV)
  | [] => [(f, v)]
  | (g, x) :: r => if g = f then (g, v) :: r else (g, x) :: putD f v r
theorem RepFs.put {fs : List (Str × DV)} {us : List (Str × V)} {d : DV} {v : V} (f : Str) (r : RepFs X.K ρ H fs us) (rd : XRep X ρ H d v) : RepFs X.K ρ H (putD f d fs) (putF f v us) := by
  induction r with
  | nil => exact .cons ⟨rfl, rd⟩ .nil
  | @cons a b l1 l2 h t ih =>
    obtain ⟨x, d'⟩ := a
    obtain ⟨y, v'⟩ := b
    obtain ⟨e1, r1⟩ := h
    dsimp only at e1
    subst e1
    unfold putD putF
    by_cases e : x = f
    · rw [if_pos e, if_pos e]
      exact .cons ⟨rfl, rd⟩ t
    · rw [if_neg e, if_neg e]
      exact .cons ⟨rfl, r1⟩ ih
/-- class c of the text has attributes and methods so: mt a method's plain function, pr a property's, fl the names that no class of it has -/
structure MethX (X : Cx) (C : Addr) (m : Str) (g : DFn) : Prop where
  cls : Cls X.K C
  ok : ∃ f n, Meth X.K C m f ∧ FnX X f n [] g
structure PropX (X : Cx) (C : Addr) (m : Str) (g : DFn) : Prop where
  cls : Cls X.K C
  ok : ∃ p f n fd ps k, PropOf X.K C m p f ∧ (∀ ds S, ds.length ≠ n → g ds S = .bad) ∧ FnOk X.prog X.w X.K X.mg X.base (L2.CX X.prog X.w) k f fd ps (SpX X n g) ∧ Room (k + 1) X.A ∧ Binds X.K fd ps []
/-- what is known of the classes, seen from X: mt, pr, fl -/
structure ClsX (X : Cx) (mt pr : Str → Str → Option DFn) (fl : Str → Str → Bool) : Prop where
  mt : ∀ c m g C, mt c m = some g → X.mg c = some (.ref C) → MethX X C m g
  pr : ∀ c m g C, pr c m = some g → X.mg c = some (.ref C) → PropX X C m g
  fl : ∀ c f C, fl c f = true → X.mg c = some (.ref C) → Cls X.K C ∧ NoAttr X.K C f
variable {mt pr : Str → Str → Option DFn} {fl : Str → Str → Bool}
def mMeth (mt : Str → Str → Option DFn) (m : Str) (o : EM) (a : AM) : EM := fun Γ S => (o Γ S).bind fun x S1 => match x with
  | .ref n => match S1[n]? with
    | some (.ins c fs) => match mt c m, fs.lookup m with
      | some g, none => (a Γ S1).bind fun ds S2 => g (x :: ds) S2
      | _, _ => .bad
    | _ => .bad
  | _ => .bad
theorem re_meth {pl : Sem Bool} {o e : Expr} {es : List Expr} {m : Str} {mo : EM} {ma : AM} {apos pos : Pos} (T : ClsX X mt pr fl) (tk : Takes X W) (ho : RE X W o mo) (ha : RA X W (e :: es) ma)
    (hst : starEach (e :: es) X.env = (false, eval e X.env) :: starEach es X.env) (hpl : (backTo pos (starEach es X.env)).any (·.1) = false)
    (ht : eval (.Call (.Attribute o m apos) (e :: es) [] pos) X.env = (do
      let ov ← eval o X.env
      standAt apos.atName
      let (f, first) ← holding [ov] (getMethod ov m pl)
      callWith pos f first (backTo pos (starEach (e :: es) X.env)) (backToKw pos (keywordEach [] X.env)))) :
    RE X W (.Call (.Attribute o m apos) (e :: es) [] pos) (mMeth mt m mo ma) := by
  refine ⟨fun pins s σ H Q I ⟨ρ, S, Γ, hr, hg, q⟩ => ?_⟩
  refine PySem.W.methodCall_KW (pl := pl) (thn (ho.run pins s σ H (fun x H1 => ∃ ρ1 S1 d, XHR X ρ1 H1 S1 ∧ GRel X.K ρ1 H1 Γ σ ∧ XRep X ρ1 H1 d x ∧ PostG X W σ ρ1 H1 (match d with
      | .ref n => match S1[n]? with
        | some (.ins c fs) => match mt c m, fs.lookup m with
          | some g, none => (ma Γ S1).bind fun ds S2 => g (d :: ds) S2
          | _, _ => .bad
        | _ => .bad
      | _ => .bad) fun d _ ρ' H' => ∀ v, XRep X ρ' H' d v → Q v H') I ⟨ρ, S, Γ, hr, hg, q.bind.mono fun d S1 ρ1 H1 x1 hr1 ⟨_, q1⟩ v rv => ⟨ρ1, S1, d, hr1, hg.ext x1, rv, q1⟩⟩) fun u s1 ⟨x, H1, I1, rx, ρ1, S1, d, hr1, hg1, rv, q1⟩ => ?_) ht
  split at q1
  · rename_i n
    split at q1
    · rename_i c fs e1
      split at q1
      · rename_i g e2 e3
        obtain ⟨a, ea, rfl⟩ := rep_refE rv
        obtain rfl : u = Value.ref a := rx
        obtain ⟨C, dx, us, hC, hH, rf⟩ := ins_at hr1 e1 ea
        obtain ⟨hc, f, n', hm, F⟩ := T.mt c m g C e2 hC
        obtain ⟨fd, ps, k, ds0, dvs, F1, hroom, hb, hd, rd⟩ := F.run
        refine getmeth_ok I1 hH hc hm ((rf.lookup m).2 e3) ?_
        refine PySem.W.callWith_K (first := [.ref a]) (h₀ := X.base) I1.ok.mod.kin hm.kp (thn (ha.run pos pins s1 σ H1 (fun vs H2 => ∃ ρ2 S2 ds, XHR X ρ2 H2 S2 ∧ RepVs X.K ρ2 H2 (.ref n :: ds) (.ref a :: vs) ∧ PostG X W σ ρ2 H2 (g (.ref n :: ds) S2) fun d _ ρ' H' => ∀ v, XRep X ρ' H' d v → Q v H') I1
          ⟨ρ1, S1, Γ, hr1, hg1, q1.bind.mono fun ds S2 ρ2 H2 x2 hr2 ⟨_, q2⟩ vs rvs => ⟨ρ2, S2, ds, hr2, .cons (RepV.ext x2 _ _ rv) rvs, q2⟩⟩) fun us' s2 ⟨vs, H2, I2, r, ρ2, S2, ds, hr2, rvs, q2⟩ => ⟨I2.kIn, ?_⟩) hst hpl
        have q3 : PostG X W σ ρ2 H2 (g ((.ref n :: ds) ++ []) S2) fun d _ ρ' H' => ∀ v, XRep X ρ' H' d v → Q v H' := by rw [List.append_nil]; exact q2
        exact run_fnSD (us := .ref a :: us') (vs := .ref a :: vs) F1 (hroom.mono (Nat.le_succ _)) hb hd (passAt tk σ) I2 (.cons rfl r) (spCall F.ar hr2 rvs (rd _ _) q3)
      · exact q1.elim
    · exact q1.elim
  · exact q1.elim
theorem re_meth0 {pl : Sem Bool} {o : Expr} {m : Str} {mo : EM} {apos pos : Pos} (T : ClsX X mt pr fl) (tk : Takes X W) (ho : RE X W o mo)
    (ht : eval (.Call (.Attribute o m apos) [] [] pos) X.env = (do
      let ov ← eval o X.env
      standAt apos.atName
      let (f, first) ← holding [ov] (getMethod ov m pl)
      callWith pos f first (backTo pos (starEach [] X.env)) (backToKw pos (keywordEach [] X.env)))) :
    RE X W (.Call (.Attribute o m apos) [] [] pos) (mMeth mt m mo mNil) := by
  refine ⟨fun pins s σ H Q I ⟨ρ, S, Γ, hr, hg, q⟩ => ?_⟩
  refine PySem.W.methodCall_KW (pl := pl) (thn (ho.run pins s σ H (fun x H1 => ∃ ρ1 S1 d, XHR X ρ1 H1 S1 ∧ GRel X.K ρ1 H1 Γ σ ∧ XRep X ρ1 H1 d x ∧ PostG X W σ ρ1 H1 (match d with
      | .ref n => match S1[n]? with
        | some (.ins c fs) => match mt c m, fs.lookup m with
          | some g, none => (mNil Γ S1).bind fun ds S2 => g (d :: ds) S2
          | _, _ => .bad
        | _ => .bad
      | _ => .bad) fun d _ ρ' H' => ∀ v, XRep X ρ' H' d v → Q v H') I ⟨ρ, S, Γ, hr, hg, q.bind.mono fun d S1 ρ1 H1 x1 hr1 ⟨_, q1⟩ v rv => ⟨ρ1, S1, d, hr1, hg.ext x1, rv, q1⟩⟩) fun u s1 ⟨x, H1, I1, rx, ρ1, S1, d, hr1, hg1, rv, q1⟩ => ?_) ht
  split at q1
  · rename_i n
    split at q1
    · rename_i c fs e1
      split at q1
      · rename_i g e2 e3
        obtain ⟨a, ea, rfl⟩ := rep_refE rv
        obtain rfl : u = Value.ref a := rx
        obtain ⟨C, dx, us, hC, hH, rf⟩ := ins_at hr1 e1 ea
        obtain ⟨hc, f, n', hm, F⟩ := T.mt c m g C e2 hC
        obtain ⟨fd, ps, k, ds0, dvs, F1, hroom, hb, hd, rd⟩ := F.run
        refine getmeth_ok I1 hH hc hm ((rf.lookup m).2 e3) ?_
        have q3 : PostG X W σ ρ1 H1 (g ([.ref n] ++ []) S1) fun d _ ρ' H' => ∀ v, XRep X ρ' H' d v → Q v H' := q1
        exact PySem.W.callWith_K0 (first := [.ref a]) I1.kIn hm.kp (run_fnSD (us := [.ref a]) (vs := [.ref a]) F1 (hroom.mono (Nat.le_succ _)) hb hd (passAt tk σ) I1 (.cons rfl .nil) (spCall F.ar hr1 (.cons rv .nil) (rd _ _) q3))
      · exact q1.elim
    · exact q1.elim
  · exact q1.elim
/-! attributes, properties -/
def mAttr (pr : Str → Str → Option DFn) (fl : Str → Str → Bool) (f : Str) (o : EM) : EM := fun Γ S => (o Γ S).bind fun x S1 => match x with
  | .ref n => match S1[n]? with
    | some (.ins c fs) => match pr c f with
      | some g => match g [x] S1 with
        | .ok d S2 => .ok d S2
        | _ => .bad
      | none => if fl c f = true then match fs.lookup f with
          | some d => .ok d S1
          | none => .bad
        else .bad
    | _ => .bad
  | _ => .bad
theorem re_attr {o : Expr} {f : Str} {mo : EM} {pos : Pos} (T : ClsX X mt pr fl) (ho : RE X W o mo) (hb : attributeBase o f X.env (eval o X.env) = eval o X.env) : RE X W (.Attribute o f pos) (mAttr pr fl f mo) := by
  refine ⟨fun pins s σ H Q I ⟨ρ, S, Γ, hr, hg, q⟩ => ?_⟩
  refine attr_of hb (thn (ho.run pins s σ H (fun x H1 => ∃ ρ1 S1 d, XHR X ρ1 H1 S1 ∧ XRep X ρ1 H1 d x ∧ PostG X W σ ρ1 H1 (match d with
    | .ref n => match S1[n]? with
      | some (.ins c fs) => match pr c f with
        | some g => match g [d] S1 with
          | .ok d S2 => .ok d S2
          | _ => .bad
        | none => if fl c f = true then match fs.lookup f with
            | some d => .ok d S1
            | none => .bad
          else .bad
      | _ => .bad
    | _ => .bad) fun d _ ρ' H' => ∀ v, XRep X ρ' H' d v → Q v H') I ⟨ρ, S, Γ, hr, hg, q.bind.mono fun d S1 ρ1 H1 x1 hr1 ⟨_, q1⟩ v rv => ⟨ρ1, S1, d, hr1, rv, q1⟩⟩) fun u s1 ⟨x, H1, I1, rx, ρ1, S1, d, hr1, rv, q1⟩ => ?_)
  split at q1
  · rename_i n
    split at q1
    · rename_i c fs e1
      obtain ⟨a, ea, rfl⟩ := rep_refE rv
      obtain rfl : u = Value.ref a := rx
      obtain ⟨C, dx, us, hC, hH, rf⟩ := ins_at hr1 e1 ea
      split at q1
      · rename_i g e2
        obtain ⟨hc, p, fa, n', fd, ps, k, hp, ar, F1, hroom, hbs⟩ := T.pr c f g C e2 hC
        split at q1
        · rename_i d S2 e3
          refine getprop_ok (E := fun _ _ _ => False) I1 hH hc hp F1 hroom hbs .nil (passes_call (X := X.nox) (W := fun _ _ _ _ => False) (fun u s' ⟨_, _, _, _, _, _, _, _, _, _, _, _, _, _, _, _, w⟩ => w.elim) fun _ _ _ _ h => h) ?_
          have q2 : PostG X.nox (fun _ _ _ _ => False) σ ρ1 H1 (g ([.ref n] ++ []) S1) fun d _ ρ' H' => ∀ v, XRep X ρ' H' d v → Q v H' := by
            rw [List.append_nil, e3]; exact q1
          exact spCall (X := X.nox) (W := fun _ _ _ _ => False) ar hr1 (.cons rv .nil) .nil q2
        · exact q1.elim
      · split at q1
        · rename_i hfl
          obtain ⟨hc, hn⟩ := T.fl c f C hfl hC
          split at q1
          · rename_i d e3
            obtain ⟨v, lv, rv'⟩ := (rf.lookup f).1 d e3
            exact getattr_ok I1 hH hc hn lv fun u' s2 I2 ru => ⟨v, H1, I2, ru, q1.ok hr1 v rv'⟩
          · exact q1.elim
        · exact q1.elim
    · exact q1.elim
  · exact q1.elim
/-! a new instance -/
structure MakeX (X : Cx) (c : Str) (C : Addr) (dd : List DV) (g : DFn) : Prop where
  mg : X.mg c = some (.ref C)
  ok : ∃ f n, Mk X.K C f ∧ FnX X f n dd g
def mMake (c : Str) (g : DFn) (dd : List DV) (m : AM) : EM := fun Γ S => (m Γ S).bind fun ds S1 => (g (.ref S1.length :: (ds ++ dd)) (S1 ++ [.ins c []])).bind fun d S2 => match d with
  | .non => .ok (.ref S1.length) S2
  | _ => .bad
theorem make_sp {c : Str} {C : Addr} {n : Nat} {g : DFn} {dd ds : List DV} {dvs vs : List V} {S : DS} {Q : VK} (ar : ∀ ds S, ds.length ≠ n → g ds S = .bad) (hC : X.mg c = some (.ref C)) (hr : XHR X ρ H S) (r : RepVs X.K ρ H ds vs) (rd : ∀ ρ H, RepVs X.K ρ H dd dvs)
    (q : PostG X W σ ρ H ((g (.ref S.length :: (ds ++ dd)) (S ++ [.ins c []])).bind fun d S2 => match d with
      | .non => .ok (.ref S.length) S2
      | _ => .bad) fun d _ ρ' H' => ∀ v, XRep X ρ' H' d v → Q v H') (x dx : Addr) (hx : H x = none) (hdx : H dx = none) (hne : dx ≠ x) :
    SpX X n g (.ref x :: (vs ++ dvs)) (upd (upd H dx (.own x)) x (.ins C dx [])) (fun v H2 => v = .non ∧ Q (.ref x) H2) (WE W σ) := by
  have x1 : Ext ρ H ρ (upd H dx (.own x)) := ext_tup hdx
  have hr1 : XHR X ρ (upd H dx (.own x)) S := hr_tup hr hdx
  have hx1 : upd H dx (.own x) x = none := by rw [upd_ne (Ne.symm hne)]; exact hx
  have x2 := Ext.new (ρ := ρ) (u := .ins C dx []) hx1
  have hr2 := hr1.new (o := .ins c []) (u := .ins C dx []) hx1 ⟨C, dx, [], hC, upd_same, .nil⟩
  have xx := x1.trans x2
  have r2 : RepVs X.K (ρ ++ [x]) (upd (upd H dx (.own x)) x (.ins C dx [])) (.ref S.length :: ds) (.ref x :: vs) := .cons (rep_new hr1) (RepVs.ext xx _ _ r)
  have q2 := (q.shift xx).bind
  refine spCall (dvs := dvs) (dd := dd) (vs := .ref x :: vs) (ds := .ref S.length :: ds) ar hr2 r2 (rd _ _) ?_
  refine q2.mono fun d S2 ρ3 H3 x3 hr3 ⟨_, q3⟩ v rv => ?_
  split at q3
  · cases rep_non rv
    refine ⟨rfl, q3.ok hr3 _ ?_⟩
    exact RepV.ext x3.toV _ _ (rep_new hr1)
  · exact q3.elim
theorem re_make {c : Str} {C : Addr} {dd : List DV} {g : DFn} {p pos : Pos} {e : Expr} {es : List Expr} {m : AM} (F : MakeX X c C dd g) (tk : Takes X W) (hg : Gl X c)
    (ha : RA X W (e :: es) m) (hdb : (c == ("__debug__" : Str)) = false) (he : starEach (e :: es) X.env = (false, eval e X.env) :: starEach es X.env) (hpl : (backTo pos (starEach es X.env)).any (·.1) = false) :
    RE X W (.Call (.Name c p) (e :: es) [] pos) (mMake c g dd m) := by
  obtain ⟨hm, f, n, M, FF⟩ := F
  obtain ⟨fd, ps, k, ds0, dvs, F1, hr, hb, hd, rd⟩ := FF.run
  refine ⟨fun pins s σ H Q I h => ?_⟩
  refine wpAny_Call_Name_kw (ld_glob I hg hm ?_ hdb)
  obtain ⟨ρ, S, Γ, hr0, hg0, q⟩ := h
  refine PySem.W.callWith_K (h₀ := X.base) I.ok.mod.kin M.kp (thn (ha.run pos pins s σ H (fun vs H1 => ∀ x dx, H1 x = none → H1 dx = none → dx ≠ x → SpX X n g (.ref x :: (vs ++ dvs)) (upd (upd H1 dx (.own x)) x (.ins C dx [])) (fun v H2 => v = .non ∧ Q (.ref x) H2) (WE W σ)) I
    ⟨ρ, S, Γ, hr0, hg0, q.bind.mono fun ds S1 ρ1 H1 x1 hr1 ⟨_, q1⟩ vs rvs => make_sp FF.ar hm hr1 rvs rd q1⟩) fun us s1 ⟨vs, H1, I1, r, q⟩ => ⟨I1.kIn, ?_⟩) he hpl
  exact make_run M F1 hr hb hd (passAt tk σ) I1 r q
end
end KN
set_option maxHeartbeats 200000
namespace KN
open PySem PySem.Spec PyProof.Rows L2
/-! ### what is walked -/
inductive SrcK where
  | fix | lst (r : Nat) (l : List DV) | dct (r : Nat)
structure Src where
  items : List DV
  k : SrcK
def SrcK.chk : SrcK → DS → Bool
  | .lst r l, S => match S[r]? with
    | some (.lst l') => decide (l' = l)
    | _ => false
  | _, _ => true
abbrev IM := DG → DM Src
/-- a dict's keys as they stand, the dict locked as o, u -/
def ItD (d : Addr) (o : Obj) (u : HO) (es : List V) : It :=
  ⟨fun i H => H d = some (.frz o u) ∧ i < es.length, fun i H x H' => H' = H ∧ es[i]? = some x, fun i H => H d = some (.frz o u) ∧ es.length ≤ i⟩
section
variable {X : Cx} {W : WX} {σ : L2.St} {ρ ρ1 : List Addr} {H H1 : Hp} {pins : List (Addr × Obj)} {s : Shared}
/-- a locked dict's object and entries -/
theorem frz_raw (I : Inv X pins σ H s) {d : Addr} {o : Obj} {u : HO} {es : List (V × V)} (h : H d = some (.frz o u)) (g : (∃ ks, u = .dK ks ∧ es = ks.map fun p => (kV p.1, p.2)) ∨ ∃ ka, u = dN X.prog X.w d ka ∧ es = entN ka) :
    (d == sysModules) = false ∧ s.heap.get? d = some o ∧ o.ExactDict ∧ ∃ rs ep, o.data = .dict rs ep ∧ Paired ER es rs.toList := by
  have e : EntV X H d es := by
    rcases g with ⟨ks, rfl, e⟩ | ⟨ka, rfl, e⟩
    · exact .inl ⟨ks, .inr ⟨o, h⟩, e⟩
    · exact .inr ⟨ka, .inr ⟨o, h⟩, e⟩
  obtain ⟨z, hs, rs, ep, ⟨o', ho, hx, hd⟩, rel⟩ := ent_at I e
  have ho' : s.heap.get? d = some o := by
    have q : ObjOk X.prog X.w H s.heap d (.frz o u) := I.hok d _ h
    exact q.1
  rw [ho'] at ho
  cases ho
  exact ⟨hs, ho', hx, rs, ep, hd, rel⟩
def EntU (X : Cx) (d : Addr) (u : HO) (es : List (V × V)) : Prop := (∃ ks, u = .dK ks ∧ es = ks.map fun p => (kV p.1, p.2)) ∨ ∃ ka, u = dN X.prog X.w d ka ∧ es = entN ka
theorem turn_keysR {tg : Expr} {d : Addr} {o : Obj} {u : HO} {es : List (V × V)} {rs : Array DictEntry} {ep : Nat} (it : Addr) (g : EntU X d u es) (hod : o.data = .dict rs ep) (hl : rs.size = es.length) :
    Turn X.prog X.w X.K tg (ItD d o u (es.map (·.1))) [it] it (fun i h => h.IsKeyIter it d i es.length ep) where
  mem := by simp
  obj := fun i h st b hb => by
    have e : b = it := by simpa using hb
    subst e
    obtain ⟨oi, e, c, dd⟩ := st
    exact ⟨oi, e, fun v z => by rw [dd] at z; cases z⟩
  keep := fun i h h' st k => st.at fun oi e => k it (by simp) oi e
  item := by
    intro X' hP hw hK hc i pins s σ H E I hf st hg
    obtain ⟨hd, hi⟩ := hg
    obtain ⟨f0, f1, f2, f3, f4, f5⟩ := hf it (by simp)
    have g' : EntU X' d u es := by unfold EntU at g ⊢; rw [hP, hw]; exact g
    obtain ⟨hs, hgd, hx, rs', ep', hdt, rel⟩ := frz_raw I hd g'
    obtain ⟨rfl, rfl⟩ := dict_ep hod hdt
    rw [List.length_map] at hi
    obtain ⟨en, hen, r1, r2⟩ := paired_get rel (i := i) (a := es[i]) (List.getElem?_eq_getElem hi)
    rw [← hP, ← hw]
    refine next_key_item st hgd hdt hl (by simpa using hen) fun h' st' sb => ?_
    have I1 : Inv X' pins σ H { s with heap := h' } := I.turned (t' := s.toks) (fun b ob hb e => (sb.2 b hb).trans e) f0 f1 f3 f4 f5
    obtain ⟨oi, e, c, dd⟩ := id st'
    exact ⟨en.key, rfl, go_of (s := { s with heap := h' }) e c dd (by decide) ⟨es[i].1, H, I1, r1, ⟨rfl, by simp [hi]⟩, st', fun b hb => (hf b hb).1⟩⟩
  done := by
    intro X' hP hw hK hc i pins s σ H E I hf st hg
    obtain ⟨hd, hi⟩ := hg
    obtain ⟨f0, f1, f2, f3, f4, f5⟩ := hf it (by simp)
    have g' : EntU X' d u es := by unfold EntU at g ⊢; rw [hP, hw]; exact g
    obtain ⟨hs, hgd, hx, rs', ep', hdt, rel⟩ := frz_raw I hd g'
    obtain ⟨rfl, rfl⟩ := dict_ep hod hdt
    rw [List.length_map] at hi
    rw [← hP, ← hw]
    exact next_key_end (I.ok.hd hc) st hgd hdt hl hi fun h' eb => ⟨rfl, I.turned (t' := s.toks) (fun b ob hb e => eb b ob hb e) f0 f1 f3 f4 f5⟩
  self := fun A i s Q E st h => wpAny_pyIter_keyiter st h
/-! ### pyIter of a value -/
theorem it_list {tg : Expr} {E : Value → Shared → Prop} {R : It → Hp → Prop} {a : Addr} {xs : List V} (I : Inv X pins σ H s) (hq : SqL X.K H a xs) (q : R (Itl X.K a) H) : wpAny (model X.prog X.w) X.A (pyIter (.ref a)) (PIE X pins σ tg R) E s := by
  obtain ⟨its, rv, p, hz⟩ := I.list hq
  refine wpAny_pyIter_list p.isList ?_
  refine ⟨s.heap.objs.size, [s.heap.objs.size], _, _, H, rfl, I.kept (t' := s.toks) fun b o e => Heap.get?_push_of_some _ e, turn_list a _, ⟨_, Heap.get?_push_size _ rfl, rfl, rfl⟩, fun b hb => ?_, q⟩
  have e : b = s.heap.objs.size := by simpa using hb
  subst e
  exact I.fpOk (Nat.le_refl _) (I.hok.fresh (Nat.le_refl _))
theorem it_tup {tg : Expr} {E : Value → Shared → Prop} {R : It → Hp → Prop} {a : Addr} {xs : List V} (I : Inv X pins σ H s) (hq : SqT X.K H a xs) (q : R (Itt X.K a) H) : wpAny (model X.prog X.w) X.A (pyIter (.ref a)) (PIE X pins σ tg R) E s := by
  obtain ⟨its, rv, p, hz⟩ := I.tuple hq
  refine wpAny_pyIter_tuple (show s.heap.IsTuple a its.toArray from p) ?_
  refine ⟨s.heap.objs.size, [s.heap.objs.size], _, _, H, rfl, I.kept (t' := s.toks) fun b o e => Heap.get?_push_of_some _ e, turn_tuple a _, ⟨_, Heap.get?_push_size _ rfl, rfl, rfl⟩, fun b hb => ?_, q⟩
  have e : b = s.heap.objs.size := by simpa using hb
  subst e
  exact I.fpOk (Nat.le_refl _) (I.hok.fresh (Nat.le_refl _))
theorem it_keys {tg : Expr} {E : Value → Shared → Prop} {R : It → Hp → Prop} {d : Addr} {o : Obj} {u : HO} {es : List (V × V)} (I : Inv X pins σ H s) (h : H d = some (.frz o u)) (g : EntU X d u es) (q : R (ItD d o u (es.map (·.1))) H) : wpAny (model X.prog X.w) X.A (pyIter (.ref d)) (PIE X pins σ tg R) E s := by
  obtain ⟨hs, hgd, hx, rs, ep, hdt, rel⟩ := frz_raw I h g
  have hl : rs.size = es.length := ((Paired.length rel).trans (by simp)).symm
  refine iter_keys hs hgd hx hdt (pi_one (tk := s.toks) I _ (turn_keysR _ g hdt hl) ⟨_, Heap.get?_push_size _ rfl, rfl, ?_⟩ q)
  rw [hl] <;> rfl
/-! ### the walk and the store -/
def GoodIt (X : Cx) (src : Src) (J : It) (ρ : List Addr) (H : Hp) : Prop := ∀ ρ' H' S', Ext ρ H ρ' H' → XHR X ρ' H' S' → src.k.chk S' = true → ∀ i,
  (∀ d, src.items[i]? = some d → J.go i H' ∧ ∀ x H'', J.yld i H' x H'' → Ext ρ' H' ρ' H'' ∧ XHR X ρ' H'' S' ∧ XRep X ρ' H'' d x) ∧ (src.items.length = i → J.stop i H')
def tI (X : Cx) (W : WX) (m : IM) : TI := fun σ H R => ∃ ρ S Γ, XHR X ρ H S ∧ GRel X.K ρ H Γ σ ∧ PostG X W σ ρ H (m Γ S) fun src _ ρ' H' => ∀ J, GoodIt X src J ρ' H' → R J H'
abbrev RI (X : Cx) (W : WX) (tg e : Expr) (m : IM) : Prop := PI X tg e (tI X W m)
theorem good_list {r : Nat} {l : List DV} {a : Addr} (ea : ρ[r]? = some a) : GoodIt X ⟨l, .lst r l⟩ (Itl X.K a) ρ H := by
  intro ρ' H' S' x hr hc i
  have ea' := x.pre r a ea
  have el : S'[r]? = some (.lst l) := by
    unfold SrcK.chk at hc
    dsimp only at hc
    split at hc
    · rename_i l' e
      have := of_decide_eq_true hc
      rw [this] at e
      exact e
    · cases hc
  obtain ⟨vs, hv, r1⟩ := lst_at hr el ea'
  refine ⟨fun d e => ?_, fun hi => ⟨vs, .of hv, by rw [← r1.len]; exact Nat.le_of_eq hi⟩⟩
  obtain ⟨v, e2, r2⟩ := r1.get e
  refine ⟨⟨vs, v, .of hv, e2⟩, fun x H'' y => ?_⟩
  obtain ⟨rfl, y⟩ := y
  have := y vs (.of hv)
  rw [e2] at this
  cases this
  exact ⟨Ext.refl _ _, hr, r2⟩
theorem Ext.sqT {ρ' : List Addr} {H' : Hp} (x : Ext ρ H ρ' H') {a : Addr} {xs : List V} (h : SqT X.K H a xs) : SqT X.K H' a xs := SqT_ext x.tups (fun b o xs => x.frzs b o _) h
theorem good_tup {l : List DV} {a : Addr} {vs : List V} (hq : SqT X.K H a vs) (r : RepVs X.K ρ H l vs) : GoodIt X ⟨l, .fix⟩ (Itt X.K a) ρ H := by
  intro ρ' H' S' x hr hc i
  have hq' := Ext.sqT x hq
  have r' := RepVs.ext x.toV _ _ r
  refine ⟨fun d e => ?_, fun hi => ⟨vs, hq', by rw [← r'.len]; exact Nat.le_of_eq hi⟩⟩
  obtain ⟨v, e2, r2⟩ := r'.get e
  refine ⟨⟨vs, v, hq', e2⟩, fun x H'' y => ?_⟩
  obtain ⟨rfl, y⟩ := y
  have := y vs hq'
  rw [e2] at this
  cases this
  exact ⟨Ext.refl _ _, hr, r2⟩
theorem reps_ints : ∀ l : List Int, RepVs X.K ρ H (l.map DV.int) (l.map V.int)
  | [] => .nil
  | i :: l => .cons rep_i (reps_ints l)
theorem good_scr {l : List Int} {a : Addr} (hq : SqS X.K H a (l.map V.int)) : GoodIt X ⟨l.map .int, .fix⟩ (Itl X.K a) ρ H := by
  intro ρ' H' S' x hr hc i
  have hq' : SqL X.K H' a (l.map V.int) := SqS.sql (show SqS X.K H' a (l.map V.int) from hq.imp (fun ⟨o, e⟩ => ⟨o, x.frzs _ _ _ e⟩) id)
  refine ⟨fun d e => ?_, fun hi => ⟨_, hq', Nat.le_of_eq (by simpa using hi)⟩⟩
  obtain ⟨v, e2, r2⟩ := (reps_ints (X := X) (ρ := ρ') (H := H') l).get e
  refine ⟨⟨_, v, hq', e2⟩, fun x H'' y => ?_⟩
  obtain ⟨rfl, y⟩ := y
  have := y _ hq'
  rw [e2] at this
  cases this
  exact ⟨Ext.refl _ _, hr, r2⟩
def rngD (lo : Int) (n : Nat) : List DV := (List.range n).map fun i : Nat => DV.int (lo + i)
theorem good_range {lo : Int} {n : Nat} : GoodIt X ⟨rngD lo n, .fix⟩ (Itr lo n) ρ H := by
  intro ρ' H' S' x hr hc i
  refine ⟨fun d e => ?_, fun hi => Nat.le_of_eq (show n = i by simpa [rngD] using hi)⟩
  have hi : i < n := by
    have := (List.getElem?_eq_some_iff.mp e).1
    simpa [rngD] using this
  have ed : d = .int (lo + i) := by
    simp [rngD, hi] at e
    exact e.symm
  subst ed
  refine ⟨hi, fun x H'' y => ?_⟩
  obtain ⟨rfl, rfl⟩ := y
  exact ⟨Ext.refl _ _, hr, rep_i⟩
theorem good_keys {ds : List DV} {r : Nat} {d : Addr} {o : Obj} {u : HO} {vs : List V} (h : H d = some (.frz o u)) (rk : RepVs X.K ρ H ds vs) : GoodIt X ⟨ds, .dct r⟩ (ItD d o u vs) ρ H := by
  intro ρ' H' S' x hr hc i
  have h' := x.frzs _ _ _ h
  have r' := RepVs.ext x.toV _ _ rk
  refine ⟨fun e q => ?_, fun hi => ⟨h', by rw [← r'.len]; exact Nat.le_of_eq hi⟩⟩
  obtain ⟨v, e2, r2⟩ := r'.get q
  refine ⟨⟨h', (List.getElem?_eq_some_iff.mp e2).1⟩, fun x H'' y => ?_⟩
  obtain ⟨rfl, y⟩ := y
  rw [e2] at y
  cases y
  exact ⟨Ext.refl _ _, hr, r2⟩
/-- what a value is walked as; a dict is locked -/
def srcOf : DV → DM Src
  | .tup l => fun S => .ok ⟨l, .fix⟩ S
  | .scr l => fun S => .ok ⟨l.map .int, .fix⟩ S
  | .ref r => fun S => match S[r]? with
    | some (.lst l) => .ok ⟨l, .lst r l⟩ S
    | some (.dct false kvs) => .ok ⟨kvs.map (·.1), .dct r⟩ (S.set r (.dct true kvs))
    | some (.dct true kvs) => .ok ⟨kvs.map (·.1), .dct r⟩ S
    | _ => .bad
  | _ => fun _ => .bad
def mSrc (m : EM) : IM := fun Γ S => (m Γ S).bind srcOf
theorem repD_ent {a : Addr} {kvs : List (DV × DV)} {u : HO} (r : XRD X ρ H a kvs u) : ∃ es, EntU X a u es ∧ XKV X ρ H kvs es := by
  rcases r with ⟨ks, rfl, r⟩ | ⟨n, ka, rfl, r⟩
  · refine ⟨_, .inl ⟨ks, rfl, rfl⟩, ?_⟩
    induction r with
    | nil => exact .nil
    | @cons a b l1 l2 h t ih =>
      refine .cons ⟨?_, h.2⟩ ih
      obtain ⟨d, x⟩ := a
      obtain ⟨k, v⟩ := b
      cases d <;> cases k <;> first | exact h.1.elim | skip
      · have q := h.1; simp only [keyR] at q; subst q; exact rep_i
      · have q := h.1; simp only [keyR] at q; subst q; exact rep_s
  · refine ⟨_, .inr ⟨ka, rfl, rfl⟩, ?_⟩
    clear n
    induction r with
    | nil => exact .nil
    | @cons a b l1 l2 h t ih => exact .cons ⟨h.2.2.1, h.2.2.2⟩ ih
theorem repD_wr {a : Addr} {kvs : List (DV × DV)} {u : HO} (r : XRD X ρ H a kvs u) : Wr u ∧ Mut (some u) := by
  rcases r with ⟨ks, rfl, r⟩ | ⟨n, ka, rfl, r⟩ <;> exact ⟨True.intro, True.intro⟩
/-- the step of a walk's start, behind the value -/
theorem iter_of {tg : Expr} {E : Value → Shared → Prop} {R : It → Hp → Prop} {S : DS} {d : DV} {v : V} {u : Value} (I : Inv X pins σ H s) (hr : XHR X ρ H S) (r : XRep X ρ H d v) (ru : RelV v u)
    (q : PostG X W σ ρ H (srcOf d S) fun src _ ρ' H' => ∀ J, GoodIt X src J ρ' H' → R J H') : wpAny (model X.prog X.w) X.A (pyIter u) (PIE X pins σ tg R) E s := by
  unfold srcOf at q
  split at q
  · obtain ⟨p, vs, rfl, sv, r1⟩ := rep_tupE r
    cases ru
    exact it_tup I sv.sqt (q.ok hr _ (good_tup sv.sqt r1))
  · rw [XRep, RepV] at r
    obtain ⟨p, rfl, sv⟩ := r
    cases ru
    exact it_list I sv.sql (q.ok hr _ (good_scr sv))
  · rename_i n
    obtain ⟨a, ea, rfl⟩ := rep_refE r
    cases ru
    split at q
    · rename_i l e1
      obtain ⟨vs, hv, r1⟩ := lst_at hr e1 ea
      exact it_list I (.of hv) (q.ok hr _ (good_list ea))
    · rename_i kvs e1
      obtain ⟨u0, hu, rd⟩ := dct_view0 hr e1 ea
      obtain ⟨w1, mu⟩ := repD_wr rd
      obtain ⟨od, I1⟩ := I.lock hu mu
      obtain ⟨es, g, xk⟩ := repD_ent rd
      have x1 : Ext ρ H ρ (upd H a (.frz od u0)) := Ext.write hu w1
      have hr1 : XHR X ρ (upd H a (.frz od u0)) (S.set n (.dct true kvs)) := hr.write ea hu w1 ⟨od, u0, upd_same, rd.ext x1⟩
      have rk := RepVs.ext x1.toV _ _ xk.keys
      exact it_keys I1 upd_same g ((q.shift x1).ok hr1 _ (good_keys upd_same rk))
    · rename_i kvs e1
      obtain ⟨od, u0, hu, rd⟩ : ∃ o u, H a = some (.frz o u) ∧ RepD X.prog X.w X.K ρ H a kvs u := hr.obj n a _ ea e1
      obtain ⟨es, g, xk⟩ := repD_ent rd
      exact it_keys I hu g (q.ok hr _ (good_keys hu xk.keys))
    · exact q.elim
  · exact q.elim
theorem ri_seq {tg e : Expr} {m : EM} (he : RE X W e m) : RI X W tg e (mSrc m) := by
  refine ⟨fun pins s σ H R I ⟨ρ, S, Γ, hr, hg, q⟩ => ?_⟩
  refine thn (he.run pins s σ H (fun v H1 => ∃ ρ1 S1 d, XHR X ρ1 H1 S1 ∧ XRep X ρ1 H1 d v ∧ PostG X W σ ρ1 H1 (srcOf d S1) fun src _ ρ' H' => ∀ J, GoodIt X src J ρ' H' → R J H') I
    ⟨ρ, S, Γ, hr, hg, q.bind.mono fun d S1 ρ1 H1 x1 hr1 ⟨_, q1⟩ v rv => ⟨ρ1, S1, d, hr1, rv, q1⟩⟩) fun u s1 ⟨v, H1, I1, ru, ρ1, S1, d, hr1, rv, q1⟩ => ?_
  exact iter_of I1 hr1 rv ru q1
def mRng1 (m : AM) : IM := fun Γ S => (m Γ S).bind fun ds S1 => match ds with
  | [.int j] => if -(2 ^ 62) ≤ j ∧ j < 2 ^ 62 then .ok ⟨rngD 0 j.toNat, .fix⟩ S1 else .bad
  | _ => .bad
def mRng2 (m : AM) : IM := fun Γ S => (m Γ S).bind fun ds S1 => match ds with
  | [.int i, .int j] => if -(2 ^ 62) ≤ i ∧ i < 2 ^ 62 ∧ -(2 ^ 62) ≤ j ∧ j < 2 ^ 62 then .ok ⟨rngD i (j - i).toNat, .fix⟩ S1 else .bad
  | _ => .bad
theorem pi_imp {tg e : Expr} {t t' : TI} (h : PI X tg e t) (f : ∀ σ H R, t' σ H R → t σ H R) : PI X tg e t' := ⟨fun pins s σ H R I q => h.run pins s σ H R I (f σ H R q)⟩
theorem ri_range1 {tg a : Expr} {m : AM} {p pos : Pos} (hg : Gl X "range") (hm : X.mg "range" = none) (ha : RA X W [a] m) (hs : starEach [a] X.env = [(false, eval a X.env)]) : RI X W tg (.Call (.Name "range" p) [a] [] pos) (mRng1 m) :=
  pi_imp (pi_range1 hg hm ha hs) fun σ H R ⟨ρ, S, Γ, hr, hg, q⟩ => by
    refine ⟨ρ, S, Γ, hr, hg, q.bind.mono fun ds S1 ρ1 H1 x1 hr1 ⟨_, q1⟩ vs rvs => ?_⟩
    split at q1
    · split at q1
      · rename_i h
        obtain ⟨v, rfl, r⟩ := reps1 rvs
        cases rep_int r
        exact ⟨_, rfl, h.1, h.2, q1.ok hr1 _ good_range⟩
      · exact q1.elim
    · exact q1.elim
theorem ri_range2 {tg a b : Expr} {m : AM} {p pos : Pos} (hg : Gl X "range") (hm : X.mg "range" = none) (ha : RA X W [a, b] m) (hs : starEach [a, b] X.env = [(false, eval a X.env), (false, eval b X.env)]) (hs2 : starEach [b] X.env = [(false, eval b X.env)]) :
    RI X W tg (.Call (.Name "range" p) [a, b] [] pos) (mRng2 m) :=
  pi_imp (pi_range2 hg hm ha hs hs2) fun σ H R ⟨ρ, S, Γ, hr, hg, q⟩ => by
    refine ⟨ρ, S, Γ, hr, hg, q.bind.mono fun ds S1 ρ1 H1 x1 hr1 ⟨_, q1⟩ vs rvs => ?_⟩
    split at q1
    · split at q1
      · rename_i h
        obtain ⟨v, u, rfl, r, r'⟩ := reps2 rvs
        cases rep_int r
        cases rep_int r'
        exact ⟨_, _, rfl, h, q1.ok hr1 _ good_range⟩
      · exact q1.elim
    · exact q1.elim
/-! ### enumerate -/
def enumD : Nat → List DV → List DV
  | _, [] => []
  | i, d :: ds => .tup [.int i, d] :: enumD (i + 1) ds
theorem enumD_len : ∀ (i : Nat) (l : List DV), (enumD i l).length = l.length
  | _, [] => rfl
  | i, _ :: ds => by rw [enumD, List.length_cons, List.length_cons, enumD_len]
theorem enumD_get : ∀ (i j : Nat) (l : List DV), (enumD i l)[j]? = (l[j]?).map fun d => .tup [.int (i + j : Nat), d]
  | _, _, [] => by simp [enumD]
  | i, 0, d :: ds => by simp [enumD]
  | i, j + 1, d :: ds => by
    rw [enumD, List.getElem?_cons_succ, List.getElem?_cons_succ, enumD_get, show i + 1 + j = i + (j + 1) by omega]
/-- the pairs of enumerate: src the items' It -/
abbrev ItE (go : Nat → Hp → Prop) (at_ : Nat → Hp → V → Prop) (stop : Nat → Hp → Prop) : It :=
  ⟨go, fun i H v H' => ∃ (T : Addr) (o : Obj) (x : V), v = .ref T ∧ H T = none ∧ o.dict = none ∧ H' = upd H T (.frz o (.tup [.int (i : Nat), x])) ∧ at_ i H x, stop⟩
abbrev IteL (K : PySem.W.Frag) (a : Addr) : It := ItE (fun i H => ∃ (xs : List V) (x : V), SqL K H a xs ∧ xs[i]? = some x) (fun i H x => ∀ xs, SqL K H a xs → xs[i]? = some x) (fun i H => ∃ xs : List V, SqL K H a xs ∧ xs.length ≤ i)
abbrev IteT (K : PySem.W.Frag) (a : Addr) : It := ItE (fun i H => ∃ (xs : List V) (x : V), SqT K H a xs ∧ xs[i]? = some x) (fun i H x => ∀ xs, SqT K H a xs → xs[i]? = some x) (fun i H => ∃ xs : List V, SqT K H a xs ∧ xs.length = i)
theorem good_enumL {r : Nat} {l : List DV} {a : Addr} (ea : ρ[r]? = some a) : GoodIt X ⟨enumD 0 l, .lst r l⟩ (IteL X.K a) ρ H := by
  intro ρ' H' S' x hr hc i
  have ea' := x.pre r a ea
  have el : S'[r]? = some (.lst l) := by
    unfold SrcK.chk at hc
    dsimp only at hc
    split at hc
    · rename_i l' e
      have := of_decide_eq_true hc
      rw [this] at e
      exact e
    · cases hc
  obtain ⟨vs, hv, r1⟩ := lst_at hr el ea'
  refine ⟨fun d e => ?_, fun hi => ⟨vs, .of hv, by rw [← r1.len]; rw [enumD_len] at hi; exact Nat.le_of_eq hi⟩⟩
  rw [enumD_get] at e
  obtain ⟨d0, e0, rfl⟩ := Option.map_eq_some_iff.mp e
  obtain ⟨v, e2, r2⟩ := r1.get e0
  refine ⟨⟨vs, v, .of hv, e2⟩, fun x H'' y => ?_⟩
  obtain ⟨T, o, x0, rfl, hT, ho, rfl, y⟩ := y
  have := y vs (.of hv)
  rw [e2] at this
  cases this
  refine ⟨ext_tup hT, hr_tup hr hT, ?_⟩
  rw [Nat.zero_add]
  exact rep_tup hT ho (.cons rep_i (.cons r2 .nil))
theorem good_enumT {l : List DV} {a : Addr} {vs : List V} (hq : SqT X.K H a vs) (r : RepVs X.K ρ H l vs) : GoodIt X ⟨enumD 0 l, .fix⟩ (IteT X.K a) ρ H := by
  intro ρ' H' S' x hr hc i
  have hq' := Ext.sqT x hq
  have r1 := RepVs.ext x.toV _ _ r
  refine ⟨fun d e => ?_, fun hi => ⟨vs, hq', by rw [← r1.len]; rw [enumD_len] at hi; exact hi⟩⟩
  rw [enumD_get] at e
  obtain ⟨d0, e0, rfl⟩ := Option.map_eq_some_iff.mp e
  obtain ⟨v, e2, r2⟩ := r1.get e0
  refine ⟨⟨vs, v, hq', e2⟩, fun x H'' y => ?_⟩
  obtain ⟨T, o, x0, rfl, hT, ho, rfl, y⟩ := y
  have := y vs hq'
  rw [e2] at this
  cases this
  refine ⟨ext_tup hT, hr_tup hr hT, ?_⟩
  rw [Nat.zero_add]
  exact rep_tup hT ho (.cons rep_i (.cons r2 .nil))
theorem turn_enumL {P : Program} {w : World} {K : PySem.W.Frag} {elts : List Expr} {kk : Nat} {tpos : Pos} (a e it : Addr) :
    Turn P w K (.Tuple elts kk tpos) (IteL K a) [e, it] e (fun i h => (∃ old, IsEnum h e it ((i : Nat) : Int) old) ∧ h.IsListIter it a i ∧ e ≠ it) where
  mem := by simp
  obj := fun i h st b hb => by
    obtain ⟨⟨old, he⟩, ⟨o, ho, hc, hd⟩, _⟩ := st
    have e' : b = e ∨ b = it := by simpa using hb
    rcases e' with z | z
    · rw [z]; exact ⟨_, he, fun v q => nomatch q⟩
    · rw [z]; exact ⟨o, ho, fun v q => by rw [hd] at q; cases q⟩
  keep := fun i h h' st k => let ⟨⟨old, he⟩, hi, hne⟩ := st; ⟨⟨old, k e (by simp) _ he⟩, hi.at fun o q => k it (by simp) o q, hne⟩
  item := by
    intro X hP hw hK hc i pins s σ H E I hf st hg
    subst hP hw hK
    obtain ⟨⟨old, he⟩, hit, hne⟩ := st
    obtain ⟨xs, x, hq, hx⟩ := hg
    obtain ⟨its, rv, p, hz⟩ := I.list hq
    obtain ⟨u, hu, ru⟩ := rv.get hx
    have hel : e < s.heap.objs.size := Heap.lt_size he
    have hil : it < s.heap.objs.size := by obtain ⟨_, q, _⟩ := hit; exact Heap.lt_size q
    refine wpAny_pyNext_enum_item he hit p.isList (x := u) (by simpa using hu) hne fun h' ho hit' hT hsz hk => ?_
    refine ⟨_, rfl, wpAny_letOwnedTupleGo_enum (s := { s with heap := h', toks := s.toks + 1 }) ho fun h'' he' sb => ?_⟩
    have hT2 : h''.get? s.heap.objs.size = some { cls := .type "tuple", data := .seq [Value.int i s.toks, u].toArray } := (sb.2 _ (Nat.ne_of_gt hel)).trans hT
    have I1 := I.turnedNew (ch := [e, it]) (fun b ob hb q => (sb.2 b (fun z => hb (by simp [z]))).trans (hk b ob (fun z => hb (by simp [z])) (fun z => hb (by simp [z])) q)) hf (Nat.le_refl _)
      (frz_ok (P := X.prog) (w := X.w) (H := upd H s.heap.objs.size (.frz { cls := .type "tuple", data := .seq [Value.int i s.toks, u].toArray } (.tup [.int (i : Nat), x]))) (vs := [.int (i : Nat), x]) (by show 2 ≤ sizeLine; decide) (.cons ⟨_, rfl⟩ (.cons ru .nil)) hT2) (t' := s.toks + 1)
    refine ⟨.ref s.heap.objs.size, _, I1, rfl, ⟨_, _, x, rfl, I.hok.fresh (Nat.le_refl _), rfl, rfl, fun ys hy => by rw [I.list_inj hy hq]; exact hx⟩, ⟨⟨u, ?_⟩, hit'.at fun o q => (sb.2 it (Ne.symm hne)).trans q, hne⟩, fun b hb => ?_⟩
    · have e1 : ((i + 1 : Nat) : Int) = (i : Int) + 1 := by omega
      rw [e1]; exact he'
    · have hb' : b < s.heap.objs.size := by
        have e' : b = e ∨ b = it := by simpa using hb
        rcases e' with z | z
        · rw [z]; exact hel
        · rw [z]; exact hil
      rw [upd_ne (Nat.ne_of_lt hb')]
      exact (hf b hb).1
  done := by
    intro X hP hw hK hc i pins s σ H E I hf st hg
    subst hP hw hK
    obtain ⟨⟨old, he⟩, hit, hne⟩ := st
    obtain ⟨xs, hq, hx⟩ := hg
    obtain ⟨its, rv, p, hz⟩ := I.list hq
    obtain ⟨f0, f1, f2, f3, f4, f5⟩ := hf it (by simp)
    have hl := rv.length
    exact wpAny_pyNext_enum_end (I.ok.hd hc) he hit p.isList (by simp; omega) fun h' eb => ⟨rfl, I.turned (t' := s.toks) (fun b o hb q => eb b o hb q) f0 f1 f3 f4 f5⟩
  self := fun A i s Q E st h => let ⟨⟨_, he⟩, _⟩ := st; wpAny_pyIter_enum he h
theorem turn_enumT {P : Program} {w : World} {K : PySem.W.Frag} {elts : List Expr} {kk : Nat} {tpos : Pos} (a e it : Addr) :
    Turn P w K (.Tuple elts kk tpos) (IteT K a) [e, it] e (fun i h => (∃ old, IsEnum h e it ((i : Nat) : Int) old) ∧ h.IsTupleIter it a i ∧ e ≠ it ∧ a ≠ it ∧ a ≠ e) where
  mem := by simp
  obj := fun i h st b hb => by
    obtain ⟨⟨old, he⟩, ⟨o, ho, hc, hd⟩, _⟩ := st
    have e' : b = e ∨ b = it := by simpa using hb
    rcases e' with z | z
    · rw [z]; exact ⟨_, he, fun v q => nomatch q⟩
    · rw [z]; exact ⟨o, ho, fun v q => by rw [hd] at q; cases q⟩
  keep := fun i h h' st k => let ⟨⟨old, he⟩, hi, hne⟩ := st; ⟨⟨old, k e (by simp) _ he⟩, hi.at fun o q => k it (by simp) o q, hne⟩
  item := by
    intro X hP hw hK hc i pins s σ H E I hf st hg
    subst hP hw hK
    obtain ⟨⟨old, he⟩, hit, hne, hat, hae⟩ := st
    obtain ⟨xs, x, hq, hx⟩ := hg
    obtain ⟨its, rv, pt, hz⟩ := I.tuple hq
    obtain ⟨u, hu, ru⟩ := rv.get hx
    have hel : e < s.heap.objs.size := Heap.lt_size he
    have hil : it < s.heap.objs.size := by obtain ⟨_, q, _⟩ := hit; exact Heap.lt_size q
    have hi : i < its.toArray.size := by simpa using (List.getElem?_eq_some_iff.mp hu).1
    refine wpAny_pyNext_enum_itemD (Draws.tuple (show X.A.in1.handled = none from I.ok.hd hc) it a hat its.toArray) he ⟨hit, pt⟩ hi hne (by simp only [List.mem_cons, List.not_mem_nil, or_false, not_or]; exact ⟨hne, Ne.symm hae⟩) fun x' h' tk hP' ho hst' hT hsz hk => ?_
    have ex : x' = u := by
      have : its.toArray[i]? = some x' := hP'
      rw [← Array.getElem?_toList, hu] at this
      exact (Option.some.inj this).symm
    subst ex
    obtain ⟨hit', _⟩ := hst'
    refine ⟨_, rfl, wpAny_letOwnedTupleGo_enum (s := { s with heap := h', toks := tk + 1 }) ho fun h'' he' sb => ?_⟩
    have hT2 : h''.get? s.heap.objs.size = some { cls := .type "tuple", data := .seq [Value.int i tk, x'].toArray } := (sb.2 _ (Nat.ne_of_gt hel)).trans hT
    have I1 := I.turnedNew (ch := [e, it]) (fun b ob hb q => (sb.2 b (fun z => hb (by simp [z]))).trans (hk b ob (fun z => hb (by simp [z])) (fun z => hb (by simp [z])) q)) hf (Nat.le_refl _)
      (frz_ok (P := X.prog) (w := X.w) (H := upd H s.heap.objs.size (.frz { cls := .type "tuple", data := .seq [Value.int i tk, x'].toArray } (.tup [.int (i : Nat), x]))) (vs := [.int (i : Nat), x]) (by show 2 ≤ sizeLine; decide) (.cons ⟨_, rfl⟩ (.cons ru .nil)) hT2) (t' := tk + 1)
    refine ⟨.ref s.heap.objs.size, _, I1, rfl, ⟨_, _, x, rfl, I.hok.fresh (Nat.le_refl _), rfl, rfl, fun ys hy => by rw [I.tuple_inj hy hq]; exact hx⟩, ⟨⟨x', ?_⟩, hit'.at fun o q => (sb.2 it (Ne.symm hne)).trans q, hne, hat, hae⟩, fun b hb => ?_⟩
    · have e1 : ((i + 1 : Nat) : Int) = (i : Int) + 1 := by omega
      rw [e1]; exact he'
    · have hb' : b < s.heap.objs.size := by
        have e' : b = e ∨ b = it := by simpa using hb
        rcases e' with z | z
        · rw [z]; exact hel
        · rw [z]; exact hil
      rw [upd_ne (Nat.ne_of_lt hb')]
      exact (hf b hb).1
  done := by
    intro X hP hw hK hc i pins s σ H E I hf st hg
    subst hP hw hK
    obtain ⟨⟨old, he⟩, hit, hne, hat, hae⟩ := st
    obtain ⟨xs, hq, hx⟩ := hg
    obtain ⟨its, rv, pt, hz⟩ := I.tuple hq
    obtain ⟨f0, f1, f2, f3, f4, f5⟩ := hf it (by simp)
    have hl := rv.length
    have hn : i = its.toArray.size := by rw [List.size_toArray]; omega
    subst hn
    exact wpAny_pyNext_enum_endD (Draws.tuple (show X.A.in1.handled = none from I.ok.hd hc) it a hat its.toArray) he ⟨hit, pt⟩ fun h' eb => ⟨rfl, I.turned (t' := s.toks) (fun b o hb q => eb b o hb q) f0 f1 f3 f4 f5⟩
  self := fun A i s Q E st h => let ⟨⟨_, he⟩, _⟩ := st; wpAny_pyIter_enum he h
set_option maxHeartbeats 1000000 in
theorem enum_new {v : Value} {o : Obj} {H : Heap → Prop} (B : Begins v o H) :
    Meets (Builtin.«enumerate.__new__» ⟨[.type "enumerate", v], []⟩) (fun _ R s => H s.heap ∧
      R (.ok (.ret (.ref (s.heap.push o).objs.size))) { s with heap := (s.heap.push o).push { cls := .type "enumerate", data := .fields #[.none, .bool false, .ref s.heap.objs.size, rawInt 0, .none, .none] } }) :=
  .of_wp fun prog w A R s h => by
    obtain ⟨hp, g, d, tk, os⟩ := s; obtain ⟨h1, h⟩ := h
    have hsub := sub_enumerate
    have q1 : ∀ {A' : Around} {E : Value → Shared → Prop} {Q : Value → Shared → Prop}, Q (.ref hp.objs.size) ⟨hp.push o, g, d, tk, os⟩ → wpAny (model prog w) A' (pyIter v) Q E ⟨hp, g, d, tk, os⟩ :=
      fun q => B.iter prog w _ _ ⟨hp, g, d, tk, os⟩ _ h1 q
    wp_walk using q1
    refine wpAny_stack_any fun st => wpAny_pure ?_
    split
    · rename_i c _ _ _ _ _
      cases (c == Value.type "enumerate")
      · wp_walk using q1
        exact ⟨_, rfl, h⟩
      · wp_walk using q1
        exact ⟨_, rfl, h⟩
    · wp_walk using q1
      exact ⟨_, rfl, h⟩
theorem call_enumT {prog : Program} {w : World} {A : Around} {E : Value → Shared → Prop} {s : Shared} {t : Addr} {items : Array Value} {Q : Value → Shared → Prop} (ht : s.heap.IsTuple t items)
    (h : ∀ h', IsEnum h' (s.heap.objs.size + 1) s.heap.objs.size 0 .none → h'.IsTupleIter s.heap.objs.size t 0 → h'.objs.size = s.heap.objs.size + 2 →
      (∀ b o, s.heap.get? b = some o → h'.get? b = some o) → Q (.ref (s.heap.objs.size + 1)) { s with heap := h' }) :
    wpAny (model prog w) A (call (.type "enumerate") [.ref t]) Q E s := by
  refine callType_new F.called_enumerate (by decide) (F.typeCall_enumerate_1 _) (F.newCall_enumerate_1 _) (fun obj => F.args_object_init_2 obj _) F.entry_enumerate_new
    (enum_new (begins_tuple t items)) ⟨ht, ?_⟩
  have hz : (s.heap.push { cls := .type "tuple_iterator", data := .fields #[.ref t, .int 0 0] }).objs.size = s.heap.objs.size + 1 := Heap.size_push ..
  show _ ∧ _
  rw [hz]
  have he : IsEnum ((s.heap.push { cls := .type "tuple_iterator", data := .fields #[.ref t, .int 0 0] }).push
      { cls := .type "enumerate", data := .fields #[.none, .bool false, .ref s.heap.objs.size, rawInt 0, .none, .none] }) (s.heap.objs.size + 1) s.heap.objs.size 0 .none := by
    have := Heap.get?_push_size (s.heap.push { cls := .type "tuple_iterator", data := .fields #[.ref t, .int 0 0] })
      (o := { cls := .type "enumerate", data := .fields #[.none, .bool false, .ref s.heap.objs.size, rawInt 0, .none, .none] }) rfl
    rw [hz] at this; exact this
  exact ⟨⟨_, he, rfl⟩, h _ he ⟨_, Heap.get?_push_of_some _ (Heap.get?_push_size _ rfl), rfl, rfl⟩ (by rw [Heap.size_push, hz]) fun b o x => Heap.get?_push_of_some _ (Heap.get?_push_of_some _ x)⟩
def enumOf : List DV → DM Src
  | [.tup l] => fun S => .ok ⟨enumD 0 l, .fix⟩ S
  | [.ref r] => fun S => match S[r]? with
    | some (.lst l) => .ok ⟨enumD 0 l, .lst r l⟩ S
    | _ => .bad
  | _ => fun _ => .bad
def mEnum (m : AM) : IM := fun Γ S => (m Γ S).bind fun ds S1 => enumOf ds S1
theorem ri_enum {e : Expr} {m : AM} {p pos tpos : Pos} {elts : List Expr} {kk : Nat} (hg : Gl X "enumerate") (hm : X.mg "enumerate" = none) (ha : RA X W [e] m) (hs : starEach [e] X.env = [(false, eval e X.env)]) :
    RI X W (.Tuple elts kk tpos) (.Call (.Name "enumerate" p) [e] [] pos) (mEnum m) := by
  refine ⟨fun pins s σ H R I ⟨ρ, S, Γ, hr, hgr, q⟩ => ?_⟩
  refine Call_ (ld_blt I hg hm boot_enumerate (PyProof.Rows.callWith_type1 (thn (ha.run pos pins s σ H (fun vs H1 => ∃ ρ1 S1 ds, XHR X ρ1 H1 S1 ∧ RepVs X.K ρ1 H1 ds vs ∧ PostG X W σ ρ1 H1 (enumOf ds S1) fun src _ ρ' H' => ∀ J, GoodIt X src J ρ' H' → R J H') I
    ⟨ρ, S, Γ, hr, hgr, q.bind.mono fun ds S1 ρ1 H1 x1 hr1 ⟨_, q1⟩ vs rvs => ⟨ρ1, S1, ds, hr1, rvs, q1⟩⟩) fun us s1 ⟨vs, H1, I1, r1, ρ1, S1, ds, hr1, rvs, q1⟩ => ?_) hs rfl))
  have fp : ∀ b ∈ [s1.heap.objs.size + 1, s1.heap.objs.size], FpOk X pins H1 b := fun b hb => by
    have e' : b = s1.heap.objs.size + 1 ∨ b = s1.heap.objs.size := by simpa using hb
    have hle : s1.heap.objs.size ≤ b := by
      rcases e' with z | z
      · rw [z]; exact Nat.le_add_right _ _
      · rw [z]; exact Nat.le_refl _
    exact I1.fpOk hle (I1.hok.fresh hle)
  unfold enumOf at q1
  split at q1
  · obtain ⟨v, rfl, r⟩ := reps1 rvs
    obtain ⟨a, us', rfl, sv, r2⟩ := rep_tupE r
    obtain ⟨u, rfl, ru⟩ := vals1 r1
    cases ru
    obtain ⟨its, rv, pt, hz⟩ := I1.tuple sv.sqt
    have hal : a < s1.heap.objs.size := by obtain ⟨o, e, _⟩ := pt; exact Heap.lt_size e
    refine call_enumT (items := its.toArray) pt fun h' he hit hsz hk => wpAny_pyIter_enum he ?_
    have I2 : Inv X pins σ H1 { s1 with heap := h' } := I1.kept (t' := s1.toks) hk
    exact ⟨s1.heap.objs.size + 1, [s1.heap.objs.size + 1, s1.heap.objs.size], _, _, H1, rfl, I2, turn_enumT a (s1.heap.objs.size + 1) s1.heap.objs.size, ⟨⟨.none, he⟩, hit, Nat.succ_ne_self _, Nat.ne_of_lt hal, Nat.ne_of_lt (Nat.lt_succ_of_lt hal)⟩, fp, q1.ok hr1 _ (good_enumT sv.sqt r2)⟩
  · rename_i rr
    split at q1
    · rename_i l e1
      obtain ⟨v, rfl, r⟩ := reps1 rvs
      obtain ⟨a, ea, rfl⟩ := rep_refE r
      obtain ⟨u, rfl, ru⟩ := vals1 r1
      cases ru
      obtain ⟨us', hv, r2⟩ := lst_at hr1 e1 ea
      obtain ⟨its, rv, p', hz⟩ := I1.list (SqL.of hv)
      refine call_enumerate_list p'.isList fun h' he hit hsz hk => wpAny_pyIter_enum he ?_
      have I2 : Inv X pins σ H1 { s1 with heap := h' } := I1.kept (t' := s1.toks) hk
      exact ⟨s1.heap.objs.size + 1, [s1.heap.objs.size + 1, s1.heap.objs.size], _, _, H1, rfl, I2, turn_enumL a (s1.heap.objs.size + 1) s1.heap.objs.size, ⟨⟨.none, he⟩, hit, Nat.succ_ne_self _⟩, fp, q1.ok hr1 _ (good_enumL ea)⟩
    · exact q1.elim
  · exact q1.elim
end
end KN
set_option maxHeartbeats 200000
namespace KN
open PySem PySem.Spec PyProof.Rows L2
section
variable {X : Cx} {W : WX} {σ σ' : L2.St} {ρ ρ1 : List Addr} {H H1 : Hp} {pins : List (Addr × Obj)} {s : Shared} {α : Type}
theorem PostG.slots {r : DR α} {G : α → DS → List Addr → Hp → Prop} (ws : WS W) (h : PostG X W σ ρ H r G) : PostG X W σ' ρ H r G := by
  cases r with
  | ok a S => exact h
  | exc c fs S => exact fun ρ' H' cls d x hr e => ws _ _ _ _ _ (h ρ' H' cls d x hr e)
  | bad => exact h
/-! ### statements -/
def mNext : SM := fun Γ S => .ok (.nx, Γ) S
def mSeq (a b : SM) : SM := fun Γ S => (a Γ S).bind fun r S1 => match r.1 with
  | .nx => b r.2 S1
  | _ => .ok r S1
def mExp (m : EM) : SM := fun Γ S => (m Γ S).bind fun _ S1 => .ok (.nx, Γ) S1
def mRet (m : EM) : SM := fun Γ S => (m Γ S).bind fun d S1 => .ok (.rt d, Γ) S1
def mRetN : SM := fun Γ S => .ok (.rt .non, Γ) S
def mIfS (t : TM) (a b : SM) : SM := fun Γ S => (t Γ S).bind fun c S1 => if c = true then a Γ S1 else b Γ S1
def mSet (i : Nat) (m : EM) : SM := fun Γ S => (m Γ S).bind fun d S1 => .ok (.nx, Γ.set i (some d)) S1
def mBadS : SM := fun _ _ => .bad
theorem GRel.set {Γ : DG} (g : GRel X.K ρ H Γ σ) (i : Nat) {d : DV} {v : V} (r : XRep X ρ H d v) : GRel X.K ρ H (Γ.set i (some d)) (σ.set i (some v)) := by
  refine ⟨by rw [List.length_set, List.length_set]; exact g.len, fun j e h => ?_⟩
  by_cases hj : i = j
  · subst hj
    have hi : i < Γ.length := by
      have := (List.getElem?_eq_some_iff.mp h).1
      simpa using this
    rw [List.getElem?_set_self hi] at h
    cases h
    exact ⟨v, List.getElem?_set_self (by rw [← g.len]; exact hi), r⟩
  · rw [List.getElem?_set_ne hj] at h
    obtain ⟨u, e1, r1⟩ := g.at_ j e h
    exact ⟨u, by rw [List.getElem?_set_ne hj]; exact e1, r1⟩
theorem GRel.unset {Γ : DG} (g : GRel X.K ρ H Γ σ) (i : Nat) {o : Option V} : GRel X.K ρ H (Γ.set i none) (σ.set i o) := by
  refine ⟨by rw [List.length_set, List.length_set]; exact g.len, fun j e h => ?_⟩
  by_cases hj : i = j
  · subst hj
    have hi : i < Γ.length := by
      have := (List.getElem?_eq_some_iff.mp h).1
      simpa using this
    rw [List.getElem?_set_self hi] at h
    cases h
  · rw [List.getElem?_set_ne hj] at h
    obtain ⟨u, e1, r1⟩ := g.at_ j e h
    exact ⟨u, by rw [List.getElem?_set_ne hj]; exact e1, r1⟩
theorem rss_nil : RSs X W [] mNext := pss_imp pss_nil fun D σ H ⟨ρ, S, Γ, hr, hg, q⟩ => (q.ok hr) σ hg
theorem rss_one {st : Stmt} {m : SM} (h : RS X W st m) : RSs X W [st] m := pss_one h
theorem rss_cons {st : Stmt} {rest : List Stmt} {a b : SM} (ws : WS W) (h1 : RS X W st a) (h2 : RSs X W rest b) : RSs X W (st :: rest) (mSeq a b) :=
  pss_imp (pss_cons h1 h2) fun D σ H ⟨ρ, S, Γ, hr, hg, q⟩ => by
    refine ⟨ρ, S, Γ, hr, hg, q.bind.mono fun r S1 ρ1 H1 x1 hr1 ⟨_, q1⟩ => ?_⟩
    obtain ⟨e, Γ1⟩ := r
    cases e with
    | nx => exact fun σ1 g1 => ⟨ρ1, S1, Γ1, hr1, g1, q1.slots ws⟩
    | rt d => exact q1.ok hr1
    | bk => exact q1.ok hr1
    | ct => exact q1.ok hr1
theorem rs_bad {st : Stmt} : RS X W st mBadS := ⟨fun _ _ _ _ _ _ ⟨_, _, _, _, _, q⟩ => q.elim⟩
theorem re_bad {e : Expr} : RE X W e (fun _ _ => .bad) := ⟨fun _ _ _ _ _ _ ⟨_, _, _, _, _, q⟩ => q.elim⟩
theorem rt_bad {e : Expr} : RT X W e (fun _ _ => .bad) := ⟨fun _ _ _ _ _ _ ⟨_, _, _, _, _, q⟩ => q.elim⟩
theorem ra_bad {e : List Expr} : RA X W e (fun _ _ => .bad) := ⟨fun _ _ _ _ _ _ _ ⟨_, _, _, _, _, q⟩ => q.elim⟩
theorem ri_bad {tg e : Expr} : RI X W tg e (fun _ _ => .bad) := ⟨fun _ _ _ _ _ _ ⟨_, _, _, _, _, q⟩ => q.elim⟩
theorem rs_pass {pos : Pos} : RS X W (.Pass pos) mNext := ps_imp ps_pass fun D σ H ⟨ρ, S, Γ, hr, hg, q⟩ => (q.ok hr) σ hg
theorem rs_expr {e : Expr} {m : EM} {pos : Pos} (he : RE X W e m) (hs : swapsWith e none pos.line X.env = pure false) : RS X W (.Expr e pos) (mExp m) :=
  ps_imp (ps_expr he hs) fun D σ H ⟨ρ, S, Γ, hr, hg, q⟩ => by
    refine ⟨ρ, S, Γ, hr, hg, q.bind.mono fun d S1 ρ1 H1 x1 hr1 ⟨_, q1⟩ v rv => ?_⟩
    exact (q1.ok hr1) σ (hg.ext x1)
theorem rs_ret {e : Expr} {m : EM} {pos : Pos} (he : RE X W e m) : RS X W (.Return (some e) pos) (mRet m) :=
  ps_imp (ps_ret he) fun D σ H ⟨ρ, S, Γ, hr, hg, q⟩ => by
    refine ⟨ρ, S, Γ, hr, hg, q.bind.mono fun d S1 ρ1 H1 x1 hr1 ⟨_, q1⟩ v rv => ?_⟩
    exact (q1.ok hr1) v rv
theorem rs_retN {pos : Pos} : RS X W (.Return none pos) mRetN := ps_imp ps_retN fun D σ H ⟨ρ, S, Γ, hr, hg, q⟩ => (q.ok hr) .non rep_n
theorem rs_if {c : Expr} {a b : List Stmt} {t : TM} {ma mb : SM} {pos : Pos} (hc : RT X W c t) (ha : RSs X W a ma) (hb : RSs X W b mb) : RS X W (.If c a b pos) (mIfS t ma mb) :=
  ps_imp (ps_if hc ha hb) fun D σ H ⟨ρ, S, Γ, hr, hg, q⟩ => by
    refine ⟨ρ, S, Γ, hr, hg, q.bind.mono fun k S1 ρ1 H1 x1 hr1 ⟨_, q1⟩ => ?_⟩
    cases k with
    | true => rw [if_pos rfl] at q1 ⊢; exact ⟨ρ1, S1, Γ, hr1, hg.ext x1, q1⟩
    | false => rw [if_neg Bool.false_ne_true] at q1 ⊢; exact ⟨ρ1, S1, Γ, hr1, hg.ext x1, q1⟩
theorem rs_set {i : Nat} {x : Str} {e : Expr} {m : EM} {pos pos' : Pos} (hN : X.N.Nodup) (hi : X.N[i]? = some x) (hx : Loc X.env.scope x) (he : RE X W e m) (hs : swapsWith e (some (.Name x pos')) pos.line X.env = pure false) (hf : X.fn x = true ∨ X.env.scope.names.lookup x = some .local) :
    RS X W (.Assign [.Name x pos'] e pos) (mSet i m) :=
  ps_imp (ps_set hN hi hx he hs hf) fun D σ H ⟨ρ, S, Γ, hr, hg, q⟩ => by
    refine ⟨ρ, S, Γ, hr, hg, q.bind.mono fun d S1 ρ1 H1 x1 hr1 ⟨_, q1⟩ v rv => ?_⟩
    exact (q1.ok hr1) _ ((hg.ext x1).set i rv)
/-! ### targets -/
abbrev GM := DV → DG → DM DG
/-- the slots of two states are alike but at ixs -/
def tG (X : Cx) (W : WX) (ixs : List Nat) (g : GM) : TG := fun v σ H Q => ∃ ρ S Γ d, XHR X ρ H S ∧ GRel X.K ρ H Γ σ ∧ XRep X ρ H d v ∧ PostG X W σ ρ H (g d Γ S) fun Γ' _ ρ' H' => ∀ σ', GRel X.K ρ' H' Γ' σ' → wipe σ' ixs = wipe σ ixs → Q σ' H'
abbrev RG (X : Cx) (W : WX) (tg : Expr) (ixs : List Nat) (g : GM) : Prop := PG X tg (tG X W ixs g)
abbrev GsM := List DV → DG → DM DG
def tGs (X : Cx) (W : WX) (ixs : List Nat) (g : GsM) : TGs := fun vs σ H Q => ∃ ρ S Γ ds, XHR X ρ H S ∧ GRel X.K ρ H Γ σ ∧ RepVs X.K ρ H ds vs ∧ PostG X W σ ρ H (g ds Γ S) fun Γ' _ ρ' H' => ∀ σ', GRel X.K ρ' H' Γ' σ' → wipe σ' ixs = wipe σ ixs → Q σ' H'
abbrev RGs (X : Cx) (W : WX) (tgs : List Expr) (ixs : List Nat) (g : GsM) : Prop := PGs X tgs (tGs X W ixs g)
theorem pg_imp {tg : Expr} {t t' : TG} (h : PG X tg t) (f : ∀ v σ H Q, t' v σ H Q → t v σ H Q) : PG X tg t' := ⟨fun pins s σ H v u Q I r q => h.run pins s σ H v u Q I r (f v σ H Q q)⟩
theorem pgs_imp {tg : List Expr} {t t' : TGs} (h : PGs X tg t) (f : ∀ v σ H Q, t' v σ H Q → t v σ H Q) : PGs X tg t' := ⟨fun pins s σ H v u Q I r q => h.run pins s σ H v u Q I r (f v σ H Q q)⟩
theorem wipe_set (i : Nat) (o : Option V) : ∀ (σ : L2.St) (ixs : List Nat), i ∈ ixs → wipe (σ.set i o) ixs = wipe σ ixs := by
  have com : ∀ (ixs : List Nat) (σ : L2.St) (j : Nat) (p : Option V), j ∉ ixs → (wipe σ ixs).set j p = wipe (σ.set j p) ixs := by
    intro ixs
    induction ixs with
    | nil => intro σ j p _; rfl
    | cons v vs ih =>
      intro σ j p hj
      simp only [List.mem_cons, not_or] at hj
      unfold wipe
      rw [← ih σ j p hj.2, List.set_comm _ _ (Ne.symm hj.1)]
  intro σ ixs
  induction ixs with
  | nil => intro h; cases h
  | cons v vs ih =>
    intro h
    unfold wipe
    by_cases hv : i ∈ vs
    · rw [ih hv]
    · have : i = v := by rcases List.mem_cons.mp h with e | e; exact e; exact absurd e hv
      subst this
      rw [← com vs σ i o hv, List.set_set]
def gSet (i : Nat) : GM := fun d Γ S => .ok (Γ.set i (some d)) S
theorem rg_name {i : Nat} {x : Str} {pos : Pos} {ixs : List Nat} (hN : X.N.Nodup) (hi : X.N[i]? = some x) (hx : Loc X.env.scope x) (hf : X.fn x = true ∨ X.env.scope.names.lookup x = some .local) (hm : i ∈ ixs) : RG X W (.Name x pos) ixs (gSet i) :=
  pg_imp (pg_name hN hi hx hf) fun v σ H Q ⟨ρ, S, Γ, d, hr, hg, rv, q⟩ => (q.ok hr) _ (hg.set i rv) (wipe_set i _ σ ixs hm)
def gNilD : GsM := fun ds Γ S => match ds with
  | [] => .ok Γ S
  | _ => .bad
def gConsD (g : GM) (h : GsM) : GsM := fun ds Γ S => match ds with
  | d :: r => (g d Γ S).bind fun Γ1 S1 => h r Γ1 S1
  | [] => .bad
theorem rgs_nil {ixs : List Nat} : RGs X W [] ixs gNilD := pgs_imp pgs_nil fun vs σ H Q ⟨ρ, S, Γ, ds, hr, hg, rv, q⟩ => by
  cases ds with
  | nil => rw [RepVs] at rv; exact ⟨rv, (q.ok hr) σ hg rfl⟩
  | cons a b => exact q.elim
theorem rgs_cons {e : Expr} {es : List Expr} {ixs : List Nat} {g : GM} {h : GsM} (ws : WS W) (h1 : RG X W e ixs g) (h2 : RGs X W es ixs h) (hs : (assignEach (e :: es) X.env).map (·.2) = assign e X.env :: (assignEach es X.env).map (·.2)) : RGs X W (e :: es) ixs (gConsD g h) :=
  pgs_imp (pgs_cons h1 h2 hs) fun vs σ H Q ⟨ρ, S, Γ, ds, hr, hg, rv, q⟩ => by
    cases ds with
    | nil => exact q.elim
    | cons d r =>
      rw [RepVs] at rv
      obtain ⟨v, vr, rfl, rd, rr⟩ := rv
      refine ⟨v, vr, rfl, ρ, S, Γ, d, hr, hg, rd, (PostG.bind (k := fun Γ1 S1 => h r Γ1 S1) q).mono fun Γ1 S1 ρ1 H1 x1 hr1 ⟨_, q1⟩ σ1 g1 e1 => ?_⟩
      refine ⟨ρ1, S1, Γ1, r, hr1, g1, RepVs.ext x1.toV _ _ rr, (q1.slots ws).mono fun Γ2 S2 ρ2 H2 x2 hr2 q2 σ2 g2 e2 => ?_⟩
      exact q2 σ2 g2 (e2.trans e1)
def gTupD (n : Nat) (h : GsM) : GM := fun d Γ S => match d with
  | .tup l => if l.length = n then h l Γ S else .bad
  | _ => .bad
theorem rg_tup {es : List Expr} {k n : Nat} {pos : Pos} {ixs : List Nat} {h : GsM} (hc : X.calm = true) (h1 : RGs X W es ixs h) (hn : (assignEach es X.env).length = n) (hst : (assignEach es X.env).findIdx? (·.1) = none) : RG X W (.Tuple es k pos) ixs (gTupD n h) :=
  pg_imp (pg_tup hc h1 hn hst) fun v σ H Q ⟨ρ, S, Γ, d, hr, hg, rv, q⟩ => by
    unfold gTupD at q
    split at q
    · split at q
      · rename_i l hl
        obtain ⟨a, vs, rfl, sv, r1⟩ := rep_tupE rv
        exact ⟨a, vs, rfl, sv.sqt, by rw [← r1.len]; exact hl, ρ, S, Γ, l, hr, hg, r1, q⟩
      · exact q.elim
    · exact q.elim
/-- target = value by a target's rule -/
def mAsg (m : EM) (g : GM) : SM := fun Γ S => (m Γ S).bind fun d S1 => (g d Γ S1).bind fun Γ' S2 => .ok (.nx, Γ') S2
theorem rs_asg {tg e : Expr} {m : EM} {g : GM} {ixs : List Nat} {pos : Pos} (he : RE X W e m) (hg : RG X W tg ixs g) (hs : swapsWithSole [tg] e pos.line X.env = pure false) (hw : swappedStores [tg] e X.env = pure none)
    (h1 : (assignEach [tg] X.env).map (·.2) = [assign tg X.env]) : RS X W (.Assign [tg] e pos) (mAsg m g) :=
  ps_imp (ps_asg he hg hs hw h1) fun D σ H ⟨ρ, S, Γ, hr, hg, q⟩ => by
    refine ⟨ρ, S, Γ, hr, hg, q.bind.mono fun d S1 ρ1 H1 x1 hr1 ⟨_, q1⟩ v rv => ?_⟩
    refine ⟨ρ1, S1, Γ, d, hr1, hg.ext x1, rv, q1.bind.mono fun Γ2 S2 ρ2 H2 x2 hr2 ⟨_, q2⟩ σ2 g2 e2 => ?_⟩
    exact (q2.ok hr2) σ2 g2
end
end KN
set_option maxHeartbeats 200000
namespace KN
open PySem PySem.Spec PyProof.Rows L2
section
variable {X : Cx} {W : WX} {σ σ' : L2.St} {ρ ρ1 : List Addr} {H H1 : Hp} {pins : List (Addr × Obj)} {s : Shared} {α : Type}
/-! ### while -/
def mWhile (t : TM) (b : SM) : Nat → SM
  | 0 => fun _ _ => .bad
  | n + 1 => fun Γ S => (t Γ S).bind fun c S1 => if c = true then (b Γ S1).bind fun r S2 => match r.1 with
      | .nx => mWhile t b n r.2 S2
      | .ct => mWhile t b n r.2 S2
      | .bk => .ok (.nx, r.2) S2
      | .rt d => .ok (.rt d, r.2) S2
    else .ok (.nx, Γ) S1
theorem rs_while {c : Expr} {body : List Stmt} {t : TM} {b : SM} {pos : Pos} (n : Nat) (ws : WS W) (hp : PassesOwn (model X.prog X.w) X.A X.env X.xe) (hc : RT X W c t) (hb : RSs X W body b) : RS X W (.While c body [] pos) (mWhile t b n) :=
  ps_imp (ps_while hp hc hb) fun D σ H ⟨ρ, S, Γ, hr, hg, q⟩ => by
    refine ⟨fun m σ H => ∃ ρ S Γ, XHR X ρ H S ∧ GRel X.K ρ H Γ σ ∧ PostG X W σ ρ H (mWhile t b m Γ S) fun r _ ρ' H' => EndG X D r ρ' H', ⟨n, ρ, S, Γ, hr, hg, q⟩, ?_⟩
    clear q hg hr
    rintro m σ H ⟨ρ, S, Γ, hr, hg, q⟩
    cases m with
    | zero => exact q.elim
    | succ m =>
      refine ⟨ρ, S, Γ, hr, hg, (PostG.bind q).mono fun k S1 ρ1 H1 x1 hr1 ⟨_, q1⟩ => ?_⟩
      cases k with
      | false =>
        rw [if_neg Bool.false_ne_true] at q1 ⊢
        exact (q1.ok hr1) σ (hg.ext x1)
      | true =>
        rw [if_pos rfl] at q1 ⊢
        refine ⟨fun σ' H' => ∃ ρ S Γ, XHR X ρ H' S ∧ GRel X.K ρ H' Γ σ' ∧ PostG X W σ' ρ H' (mWhile t b m Γ S) fun r _ ρ' H' => EndG X D r ρ' H', fun σ' H' h => ⟨m, Nat.lt_succ_self _, h⟩, ρ1, S1, Γ, hr1, hg.ext x1, q1.bind.mono fun r S2 ρ2 H2 x2 hr2 ⟨_, q2⟩ => ?_⟩
        obtain ⟨e, Γ2⟩ := r
        cases e with
        | nx => exact fun σ2 g2 => ⟨ρ2, S2, Γ2, hr2, g2, q2.slots ws⟩
        | ct => exact fun σ2 g2 => ⟨ρ2, S2, Γ2, hr2, g2, q2.slots ws⟩
        | bk => exact q2.ok hr2
        | rt d => exact q2.ok hr2
/-! ### a lock that ends -/
def UnlE (H : Hp) (Q : Hp → Prop) (H' : Hp) : Prop := Q H' ∨ ∃ d u0 od u, H d = some u0 ∧ Mut (some u0) ∧ H' d = some (.frz od u) ∧ Q (upd H' d u)
def endsU (H : Hp) (D : Ends) : Ends := { nx := fun σ' H' => UnlE H (D.nx σ') H', rt := fun v H' => UnlE H (D.rt v) H', bk := fun σ' H' => UnlE H (D.bk σ') H', ct := fun σ' H' => UnlE H (D.ct σ') H' }
theorem ps_unl {st : Stmt} {t : TS} (h : PS X st t) : PS X st (fun D σ H => t (endsU H D) σ H) := by
  refine ⟨fun pins s σ H D I hw => ?_⟩
  have key : ∀ {σ' : L2.St} {H' : Hp} {s1 : Shared} {Q : Hp → Prop}, Inv X pins σ' H' s1 → UnlE H Q H' → ∃ H'', Inv X pins σ' H'' s1 ∧ Q H'' := by
    intro σ' H' s1 Q I2 q
    rcases q with q | ⟨d, u0, od, u, hd, mu, e, q⟩
    · exact ⟨H', I2, q⟩
    · exact ⟨_, I2.unlock e (I.nofrz hd mu), q⟩
  refine thn (h.run pins s σ H _ I hw) fun f s1 q => ?_
  cases f with
  | next => obtain ⟨σ', H', I2, q⟩ := q; obtain ⟨H'', I3, q3⟩ := key I2 q; exact ⟨σ', H'', I3, q3⟩
  | brk => obtain ⟨σ', H', I2, q⟩ := q; obtain ⟨H'', I3, q3⟩ := key I2 q; exact ⟨σ', H'', I3, q3⟩
  | cont => obtain ⟨σ', H', I2, q⟩ := q; obtain ⟨H'', I3, q3⟩ := key I2 q; exact ⟨σ', H'', I3, q3⟩
  | ret v => obtain ⟨x, σ', H', I2, r, q⟩ := q; obtain ⟨H'', I3, q3⟩ := key I2 q; exact ⟨x, σ', H'', I3, r, q3⟩
theorem pe_unl {e : Expr} {t : TE} (h : PE X e t) : PE X e (fun σ H Q => t σ H fun v H' => UnlE H (Q v) H') := by
  refine ⟨fun pins s σ H Q I hw => ?_⟩
  refine thn (h.run pins s σ H _ I hw) fun v s1 ⟨x, H1, I2, r, q⟩ => ?_
  rcases q with q | ⟨d, u0, od, u, hd, mu, e, q⟩
  · exact ⟨x, H1, I2, r, q⟩
  · exact ⟨x, _, I2.unlock e (I.nofrz hd mu), r, q⟩
/-- the store behind a walk: what it locked is let go -/
def unlR (S : DS) : DR (α × SrcK) → DR α
  | .ok (e, .dct n) S2 => match S[n]? with
    | some (.dct false _) => match S2[n]? with
      | some (.dct true kvs) => .ok e (S2.set n (.dct false kvs))
      | _ => .bad
    | _ => .ok e S2
  | .ok (e, _) S2 => .ok e S2
  | .exc c fs S2 => .exc c fs S2
  | .bad => .bad
theorem ExtV.unl {d : Addr} {od : Obj} {u : HO} (e : H d = some (.frz od u)) (w : Mut (some u)) (nl : ∀ xs, u ≠ .lst xs) : ExtV ρ H ρ (upd H d u) :=
  ⟨fun _ _ h => h, fun b xs h => by
    rw [upd_ne]
    · exact h
    · rintro rfl
      rw [e] at h
      exact absurd h (by simp),
   fun b o xs h => by
    rw [upd_ne]
    · exact h
    · rintro rfl
      rw [e] at h
      cases h
      exact w,
   fun b o xs h => by
    rw [upd_ne]
    · exact h
    · rintro rfl
      rw [e] at h
      cases h
      exact nl _ rfl⟩
theorem repD_notlst {a : Addr} {kvs : List (DV × DV)} {u : HO} (r : XRD X ρ H a kvs u) : ∀ xs, u ≠ .lst xs := by
  rcases r with ⟨ks, rfl, r⟩ | ⟨n, ka, rfl, r⟩ <;> intro xs e <;> cases e
theorem unl_post {S : DS} {r : DR (α × SrcK)} {G : α → DS → List Addr → Hp → Prop} (hr : XHR X ρ H S) (q : PostG X W σ ρ H (unlR S r) G) :
    PostG X W σ ρ H r fun e S2 ρ2 H2 => G e.1 S2 ρ2 H2 ∨ ∃ d u0 od u S3, H d = some u0 ∧ Mut (some u0) ∧ H2 d = some (.frz od u) ∧ ExtV ρ2 H2 ρ2 (upd H2 d u) ∧ G e.1 S3 ρ2 (upd H2 d u) := by
  cases r with
  | bad => exact q
  | exc c fs S2 => exact q
  | ok e S2 =>
    obtain ⟨e, k⟩ := e
    intro ρ2 H2 x2 hr2
    cases k with
    | fix => exact .inl (q ρ2 H2 x2 hr2)
    | lst a b => exact .inl (q ρ2 H2 x2 hr2)
    | dct n =>
      unfold unlR at q
      dsimp only at q
      split at q
      · rename_i kvs0 e0
        split at q
        · rename_i kvs e2
          obtain ⟨a, ea, _⟩ := hr.get e0
          obtain ⟨u0, hu0, rd0⟩ := dct_view0 hr e0 ea
          obtain ⟨w0, mu0⟩ := repD_wr rd0
          have ea2 := x2.pre n a ea
          obtain ⟨od, u, hu, rd⟩ : ∃ o u, H2 a = some (.frz o u) ∧ RepD X.prog X.w X.K ρ2 H2 a kvs u := hr2.obj n a _ ea2 e2
          obtain ⟨w1, mu1⟩ := repD_wr rd
          have xv : ExtV ρ2 H2 ρ2 (upd H2 a u) := ExtV.unl hu mu1 (repD_notlst rd)
          refine .inr ⟨a, u0, od, u, _, hu0, mu0, hu, xv, q ρ2 (upd H2 a u) ?_ ?_⟩
          · have na : ∀ {b o z}, H b = some (.frz o z) → b ≠ a := fun {b o z} h e => by
              rw [e, hu0] at h
              cases h
              exact w0
            have nt : ∀ {b xs}, H b = some (.tup xs) → b ≠ a := fun {b xs} h e => by
              rw [e, hu0] at h
              cases h
              exact w0
            have nx : ∀ {b xs}, H b = some (.xd xs) → b ≠ a := fun {b xs} h e => by
              rw [e, hu0] at h
              cases h
              exact w0
            exact ⟨x2.pre, fun b xs h => by rw [upd_ne (nt h)]; exact x2.tups b xs h, fun b o z h => by rw [upd_ne (na h)]; exact x2.frzs b o z h, fun b xs h => by rw [upd_ne (nx h)]; exact x2.xds b xs h⟩
          · refine ⟨?_, hr2.nd, fun m b o e1 e3 => ?_⟩
            · rw [List.length_set]; exact hr2.len
            · by_cases hm : n = m
              · subst hm
                rw [ea2] at e1; cases e1
                rw [List.getElem?_set_self (by have := (List.getElem?_eq_some_iff.mp e2).1; exact this)] at e3
                cases e3
                exact ⟨u, upd_same, rd.ext xv⟩
              · rw [List.getElem?_set_ne hm] at e3
                refine (hr2.obj m b o e1 e3).ext xv ?_
                rw [upd_ne]
                rintro rfl
                have l1 := (List.getElem?_eq_some_iff.mp ea2).1
                exact hm ((List.getElem?_inj l1 hr2.nd).mp (ea2.trans e1.symm))
        · exact q.elim
      · exact .inl (q ρ2 H2 x2 hr2)
theorem endG_unl {D : Ends} {e : DF × DG} {d : Addr} {u0 : HO} {od : Obj} {u : HO} {H2 : Hp} (hd : H d = some u0) (mu : Mut (some u0)) (e2 : H2 d = some (.frz od u)) (xv : ExtV ρ H2 ρ (upd H2 d u)) (q : EndG X D e ρ (upd H2 d u)) : EndG X (endsU H D) e ρ H2 := by
  obtain ⟨e, Γ⟩ := e
  cases e with
  | nx => exact fun σ g => .inr ⟨d, u0, od, u, hd, mu, e2, q σ (g.ext xv)⟩
  | bk => exact fun σ g => .inr ⟨d, u0, od, u, hd, mu, e2, q σ (g.ext xv)⟩
  | ct => exact fun σ g => .inr ⟨d, u0, od, u, hd, mu, e2, q σ (g.ext xv)⟩
  | rt x => exact fun v r => .inr ⟨d, u0, od, u, hd, mu, e2, q v (RepV.ext xv _ _ r)⟩
theorem endG_keep {D : Ends} {e : DF × DG} {H2 : Hp} (q : EndG X D e ρ H2) : EndG X (endsU H D) e ρ H2 := by
  obtain ⟨e, Γ⟩ := e
  cases e with
  | nx => exact fun σ g => .inl (q σ g)
  | bk => exact fun σ g => .inl (q σ g)
  | ct => exact fun σ g => .inl (q σ g)
  | rt x => exact fun v r => .inl (q v r)
/-! ### for -/
def runL (tg : GM) (b : SM) (k : SrcK) : List DV → SM
  | [] => fun Γ S => if k.chk S = true then .ok (.nx, Γ) S else .bad
  | x :: xs => fun Γ S => if k.chk S = true then (tg x Γ S).bind fun Γ1 S1 => (b Γ1 S1).bind fun r S2 => match r.1 with
      | .nx => runL tg b k xs r.2 S2
      | .ct => runL tg b k xs r.2 S2
      | .bk => .ok (.nx, r.2) S2
      | .rt d => .ok (.rt d, r.2) S2
    else .bad
def mFor (m : IM) (tg : GM) (b : SM) : SM := fun Γ S => unlR S ((m Γ S).bind fun src S1 => (runL tg b src.k src.items Γ S1).bind fun e S2 => .ok (e, src.k) S2)
theorem drop_cons {β : Type} {l : List β} {i : Nat} {x : β} {xs : List β} (h : l.drop i = x :: xs) : l[i]? = some x ∧ l.drop (i + 1) = xs := by
  have hi : i < l.length := by
    rcases Nat.lt_or_ge i l.length with z | z
    · exact z
    · rw [List.drop_eq_nil_of_le z] at h; cases h
  rw [List.drop_eq_getElem_cons hi] at h
  injection h with h1 h2
  exact ⟨by rw [List.getElem?_eq_getElem hi, h1], h2⟩
theorem GoodIt.ext {src : Src} {J : It} (g : GoodIt X src J ρ H) (x : Ext ρ H ρ1 H1) : GoodIt X src J ρ1 H1 := fun ρ' H' S' y => g ρ' H' S' (x.trans y)
theorem rs_for {iter tgt : Expr} {body : List Stmt} {ixs : List Nat} {m : IM} {tg : GM} {b : SM} {pos : Pos} (ws : WS W) (hp : PassesOwn (model X.prog X.w) X.A X.env X.xe) (hc : X.calm = true) (hi : RI X W tgt iter m) (hg : RG X W tgt ixs tg) (hb : RSs X W body b) (hfs : ∀ x, foldedSetIterable iter X.env x = pure x) :
    PS X (.For tgt iter body [] pos) (tS X W (mFor m tg b)) := by
  refine ps_imp (ps_unl (ps_for hp hc hi hg hb hfs)) fun D σ H ⟨ρ, S, Γ, hr, hg, q⟩ => ?_
  refine ⟨ρ, S, Γ, hr, hg, (unl_post hr q).bind.mono fun src S1 ρ1 H1 x1 hr1 ⟨_, q1⟩ J good => ?_⟩
  have q2 : PostG X W σ ρ1 H1 (runL tg b src.k src.items Γ S1) fun e _ ρ2 H2 => EndG X (endsU H D) e ρ2 H2 := by
    refine q1.bind.mono fun e S2 ρ2 H2 x2 hr2 ⟨_, q3⟩ => ?_
    rcases q3.ok hr2 with q4 | ⟨d, u0, od, u, S3, hd, mu, e2, xv, q4⟩
    · exact endG_keep q4
    · exact endG_unl hd mu e2 xv q4
  clear q q1
  refine ⟨fun i m σ H' => ∃ ρ S Γ, XHR X ρ H' S ∧ GRel X.K ρ H' Γ σ ∧ GoodIt X src J ρ H' ∧ (m = src.items.length - i ∧ i ≤ src.items.length) ∧ PostG X W σ ρ H' (runL tg b src.k (src.items.drop i) Γ S) fun e _ ρ2 H2 => EndG X (endsU H D) e ρ2 H2,
    ⟨_, ρ1, S1, Γ, hr1, hg.ext x1, good, ⟨rfl, Nat.zero_le _⟩, by rw [List.drop_zero]; exact q2⟩, ?_⟩
  clear q2 good hr1
  rintro i n σ' H' ⟨ρ', S', Γ', hr', hg', good, ⟨rfl, hile⟩, q⟩
  cases hd : src.items.drop i with
  | nil =>
    rw [hd] at q
    unfold runL at q
    split at q
    · rename_i hk
      have hl : src.items.length ≤ i := by
        rcases Nat.lt_or_ge i src.items.length with z | z
        · rw [List.drop_eq_getElem_cons z] at hd; cases hd
        · exact z
      exact .inl ⟨((good ρ' H' S' (Ext.refl _ _) hr' hk) i).2 (Nat.le_antisymm hl hile), (q.ok hr') σ' hg'⟩
    · exact q.elim
  | cons x xs =>
    rw [hd] at q
    obtain ⟨e1, e2⟩ := drop_cons hd
    unfold runL at q
    split at q
    · rename_i hk
      obtain ⟨go, yld⟩ := ((good ρ' H' S' (Ext.refl _ _) hr' hk) i).1 x e1
      have hi : i < src.items.length := (List.getElem?_eq_some_iff.mp e1).1
      refine .inr ⟨go, fun σ2 H2 => ∃ ρ S Γ, XHR X ρ H2 S ∧ GRel X.K ρ H2 Γ σ2 ∧ GoodIt X src J ρ H2 ∧ PostG X W σ2 ρ H2 (runL tg b src.k xs Γ S) fun e _ ρ2 H2 => EndG X (endsU H D) e ρ2 H2,
        fun σ2 H2 ⟨ρ2, S2, Γ2, a, b, c, d⟩ => ⟨src.items.length - (i + 1), by omega, ρ2, S2, Γ2, a, b, c, ⟨rfl, hi⟩, by rw [e2]; exact d⟩, fun v H'' y => ?_⟩
      obtain ⟨xy, hry, rv⟩ := yld v H'' y
      refine ⟨ρ', S', Γ', x, hry, hg'.ext xy, rv, ((PostG.bind q).shift xy).mono fun Γ2 S2 ρ2 H2 x2 hr2 ⟨x2', q2⟩ σ2 g2 _ => ?_⟩
      refine ⟨ρ2, S2, Γ2, hr2, g2, (q2.bind.slots ws).mono fun r S3 ρ3 H3 x3 hr3 ⟨_, q3⟩ => ?_⟩
      obtain ⟨e, Γ3⟩ := r
      have gd : GoodIt X src J ρ3 H3 := (good.ext (xy.trans x2)).ext x3
      cases e with
      | nx => exact fun σ3 g3 => ⟨ρ3, S3, Γ3, hr3, g3, gd, q3.slots ws⟩
      | ct => exact fun σ3 g3 => ⟨ρ3, S3, Γ3, hr3, g3, gd, q3.slots ws⟩
      | bk => exact q3.ok hr3
      | rt d => exact q3.ok hr3
    · exact q.elim
end
end KN
set_option maxHeartbeats 200000
namespace KN
open PySem PySem.Spec PyProof.Rows L2
/-- nothing may be raised -/
abbrev WF : WX := fun _ _ _ _ => False
section
variable {X : Cx} {W : WX} {σ σ' : L2.St} {ρ ρ1 : List Addr} {H H1 : Hp} {pins : List (Addr × Obj)} {s : Shared} {α β : Type}
def noExc (r : DR α) : DR α := match r with
  | .ok a S => .ok a S
  | _ => .bad
theorem PostG.noexc {r : DR α} {k : α → DM β} {G : β → DS → List Addr → Hp → Prop} (h : PostG X W σ ρ H ((noExc r).bind k) G) :
    PostG X WF σ' ρ H r fun a S ρ' H' => Ext ρ H ρ' H' ∧ PostG X W σ ρ' H' (k a S) G := by
  cases r with
  | ok a S => exact fun ρ' H' x hr => ⟨x, PostG.shift h x⟩
  | exc c fs S => exact h.elim
  | bad => exact h
def wipeD (Γ : DG) : List Nat → DG
  | [] => Γ
  | v :: vs => (wipeD Γ vs).set v none
theorem GRel.wipe {Γ : DG} (g : GRel X.K ρ H Γ σ) : ∀ vs : List Nat, GRel X.K ρ H (wipeD Γ vs) (L2.wipe σ vs)
  | [] => g
  | v :: vs => (GRel.wipe g vs).unset v
theorem wipe_idem (σ : L2.St) : ∀ vs : List Nat, wipe (wipe σ vs) vs = wipe σ vs := by
  have key : ∀ (vs ws : List Nat) (τ : L2.St), (∀ v ∈ ws, v ∈ vs) → wipe (wipe τ ws) vs = wipe τ vs := by
    intro vs ws
    induction ws with
    | nil => intro τ _; rfl
    | cons w ws ih =>
      intro τ h
      show wipe ((wipe τ ws).set w none) vs = wipe τ vs
      rw [wipe_set w none _ vs (h w List.mem_cons_self)]
      exact ih τ fun v hv => h v (List.mem_cons_of_mem _ hv)
  exact fun vs => key vs vs σ fun _ h => h
/-! ### list comprehensions -/
def appD (n : Nat) (d : DV) : DM Unit := fun S => match S[n]? with
  | some (.lst l) => if l.length < sizeLine then .ok () (S.set n (.lst (l ++ [d]))) else .bad
  | _ => .bad
def lcL (n : Nat) (tg : GM) (t : TM) (e : EM) (k : SrcK) (Γ0 : DG) : List DV → DM Unit
  | [] => fun S => if k.chk S = true then .ok () S else .bad
  | x :: xs => fun S => if k.chk S = true then (noExc (tg x Γ0 S)).bind fun Γ1 S1 => (noExc (t Γ1 S1)).bind fun c S2 =>
      if c = true then (noExc (e Γ1 S2)).bind fun d S3 => (appD n d S3).bind fun _ S4 => lcL n tg t e k Γ0 xs S4 else lcL n tg t e k Γ0 xs S2
    else .bad
def mLc (m : IM) (own : List Nat) (tg : GM) (t : TM) (e : EM) : EM := fun Γ S => unlR S ((m Γ S).bind fun src S1 => (lcL S1.length tg t e src.k (wipeD Γ own) src.items (S1 ++ [.lst []])).bind fun _ S2 => .ok (.ref S1.length, src.k) S2)
def mYes : TM := fun _ S => .ok true S
theorem app_post {n : Nat} {d : DV} {v : V} {S : DS} {D : Addr} {k : Unit → DM β} {G : β → DS → List Addr → Hp → Prop} (hr : XHR X ρ H S) (hD : ρ[n]? = some D) (rv : XRep X ρ H d v) (q : PostG X W σ ρ H ((appD n d S).bind k) G) :
    ∃ acc S', H D = some (.lst acc) ∧ acc.length < sizeLine ∧ Ext ρ H ρ (upd H D (.lst (acc ++ [v]))) ∧ XHR X ρ (upd H D (.lst (acc ++ [v]))) S' ∧ PostG X W σ ρ (upd H D (.lst (acc ++ [v]))) (k () S') G := by
  unfold appD at q
  split at q
  · rename_i l e
    split at q
    · rename_i hz
      obtain ⟨acc, ha, r1⟩ := lst_at hr e hD
      have x : Ext ρ H ρ (upd H D (.lst (acc ++ [v]))) := Ext.write ha True.intro
      refine ⟨acc, _, ha, by rw [← r1.len]; exact hz, x, hr.write (o := .lst (l ++ [d])) hD ha True.intro ⟨acc ++ [v], upd_same, RepVs.ext x.toV _ _ (r1.append (.cons rv .nil))⟩, PostG.shift q x⟩
    · exact q.elim
  · exact q.elim
theorem lc_of {m : IM} {own : List Nat} {tg : GM} {t : TM} {e : EM} {Q : VK} (h : tO X W (mLc m own tg t e) σ H Q) :
    tLc (tI X W m) (tG X WF own tg) (tT X WF t) (tO X WF e) own σ H (fun v H' => UnlE H (Q v) H') := by
  obtain ⟨ρ, S, Γ, hr, hg, q⟩ := h
  refine ⟨ρ, S, Γ, hr, hg, (unl_post hr q).bind.mono fun src S1 ρ1 H1 x1 hr1 ⟨_, q1⟩ J good D hD => ?_⟩
  have xn : Ext ρ1 H1 (ρ1 ++ [D]) (upd H1 D (.lst [])) := Ext.new hD
  have hn : XHR X (ρ1 ++ [D]) (upd H1 D (.lst [])) (S1 ++ [.lst []]) := hr1.new hD ⟨[], upd_same, .nil⟩
  have hD1 : (ρ1 ++ [D])[S1.length]? = some D := by rw [← hr1.len]; simp
  have q2 := (q1.shift xn).bind
  refine ⟨fun i m H' => ∃ ρ' S', XHR X ρ' H' S' ∧ Ext (ρ1 ++ [D]) (upd H1 D (.lst [])) ρ' H' ∧ (m = src.items.length - i ∧ i ≤ src.items.length) ∧
    PostG X W σ ρ' H' (lcL S1.length tg t e src.k (wipeD Γ own) (src.items.drop i) S') (fun _ S2 ρ2 H2 => Ext (ρ1 ++ [D]) (upd H1 D (.lst [])) ρ2 H2 → UnlE H (Q (.ref D)) H2), ⟨_, ρ1 ++ [D], _, hn, Ext.refl _ _, ⟨rfl, Nat.zero_le _⟩, ?_⟩, ?_⟩
  · rw [List.drop_zero]
    refine q2.mono fun _ S2 ρ2 H2 x2 hr2 ⟨_, q3⟩ x3 => ?_
    have rd : XRep X ρ2 H2 (.ref S1.length) (.ref D) := by rw [XRep, RepV]; exact ⟨D, x3.pre _ _ hD1, rfl⟩
    rcases q3.ok hr2 with q4 | ⟨d, u0, od, u, S3, hd, mu, e2, xv, q4⟩
    · exact .inl (q4 _ rd)
    · exact .inr ⟨d, u0, od, u, hd, mu, e2, q4 _ (RepV.ext xv _ _ rd)⟩
  · clear q q1 q2 hn
    rintro i n H' ⟨ρ', S', hr', x', ⟨rfl, hile⟩, q⟩
    have hg' : GRel X.K ρ' H' (wipeD Γ own) (wipe σ own) := GRel.wipe (hg.ext ((x1.trans xn).trans x')) own
    have gd : GoodIt X src J ρ' H' := good.ext (xn.trans x')
    cases hd : src.items.drop i with
    | nil =>
      rw [hd] at q
      unfold lcL at q
      split at q
      · rename_i hk
        have hl : src.items.length ≤ i := by
          rcases Nat.lt_or_ge i src.items.length with z | z
          · rw [List.drop_eq_getElem_cons z] at hd; cases hd
          · exact z
        exact .inl ⟨((gd ρ' H' S' (Ext.refl _ _) hr' hk) i).2 (Nat.le_antisymm hl hile), (q.ok hr') x'⟩
      · exact q.elim
    | cons x xs =>
      rw [hd] at q
      obtain ⟨e1, e2⟩ := drop_cons hd
      unfold lcL at q
      split at q
      · rename_i hk
        obtain ⟨go, yld⟩ := ((gd ρ' H' S' (Ext.refl _ _) hr' hk) i).1 x e1
        have hi : i < src.items.length := (List.getElem?_eq_some_iff.mp e1).1
        refine .inr ⟨go, fun H2 => ∃ ρ2 S2, XHR X ρ2 H2 S2 ∧ Ext (ρ1 ++ [D]) (upd H1 D (.lst [])) ρ2 H2 ∧ PostG X W σ ρ2 H2 (lcL S1.length tg t e src.k (wipeD Γ own) xs S2) (fun _ S2 ρ2 H2 => Ext (ρ1 ++ [D]) (upd H1 D (.lst [])) ρ2 H2 → UnlE H (Q (.ref D)) H2),
          fun H2 ⟨ρ2, S2, a, b, c⟩ => ⟨src.items.length - (i + 1), by omega, ρ2, S2, a, b, ⟨rfl, hi⟩, by rw [e2]; exact c⟩, fun v H'' y => ?_⟩
        obtain ⟨xy, hry, rv⟩ := yld v H'' y
        refine ⟨ρ', S', wipeD Γ own, x, hry, hg'.ext xy, rv, ((PostG.noexc (σ' := wipe σ own) q).shift xy).mono fun Γ2 S2 ρ2 H2 x2 hr2 ⟨x2', q2⟩ σ2 g2 w2 => ⟨by rw [w2, wipe_idem], ?_⟩⟩
        refine ⟨ρ2, S2, Γ2, hr2, g2, (PostG.noexc (σ' := σ2) q2).mono fun c S3 ρ3 H3 x3 hr3 ⟨_, q3⟩ => ?_⟩
        have xx3 := ((x'.trans xy).trans x2).trans x3
        cases c with
        | false =>
          rw [if_neg Bool.false_ne_true] at q3
          dsimp only
          rw [if_neg Bool.false_ne_true]
          exact ⟨ρ3, S3, hr3, xx3, q3⟩
        | true =>
          rw [if_pos rfl] at q3
          dsimp only
          rw [if_pos rfl]
          refine ⟨ρ3, S3, Γ2, hr3, g2.ext x3, (PostG.noexc (σ' := σ2) q3).mono fun d S4 ρ4 H4 x4 hr4 ⟨_, q4⟩ v4 rv4 => ?_⟩
          have xx4 := xx3.trans x4
          obtain ⟨acc, S5, ha, hz, x5, hr5, q5⟩ := app_post hr4 (xx4.pre _ _ hD1) rv4 q4
          exact ⟨acc, ha, hz, ρ4, S5, hr5, xx4.trans x5, q5⟩
      · exact q.elim
/-- the block's context -/
abbrev BX (X : Cx) (s : Shared) (H : Hp) (scope : Scope) (C : Addr) (cl : List (Str × Addr)) (fp : List Addr) : Cx := X.blk s H scope (compEnvC scope cl C X.env) fp
abbrev RTs (X : Cx) (W : WX) (ifs : List Expr) (t : TM) : Prop := PTs X ifs (tT X W t)
theorem rts_nil : RTs X W [] mYes := ⟨fun pins s σ H Q I ⟨ρ, S, Γ, hr, hg, q⟩ => pts_nil.run pins s σ H Q I (q.ok hr)⟩
theorem rts_one {c : Expr} {t : TM} (h : RT X W c t) : RTs X W [c] t := pts_one h
theorem re_lc {elt tgt iter : Expr} {ifs : List Expr} {scope : Scope} {own : List (Str × Nat)} {pos : Pos} {m : IM} {tg : GM} {t : TM} {e : EM} (hc : X.calm = true) (hN : X.N.Nodup) (hi : RI X W tgt iter m) (ok : BlkOk X.N X.env.scope scope own)
    (hg : ∀ s H C cl fp, RG (BX X s H scope C cl fp) WF tgt (own.map (·.2)) tg) (ht : ∀ s H C cl fp, RTs (BX X s H scope C cl fp) WF ifs t) (he : ∀ s H C cl fp, RE (BX X s H scope C cl fp) WF elt e)
    (hfs : ∀ x, foldedSetIterable iter X.env x = pure x) : RE X W (.ListComp elt [⟨tgt, iter, ifs, 0⟩] scope pos) (mLc m (own.map (·.2)) tg t e) :=
  pe_imp (pe_unl (pe_lc (own := own) (g := tG X WF (own.map fun x : Str × Nat => x.2) tg) (tt := tT X WF t) (te := tO X WF e) hc hN hi ok hg ht he hfs)) fun σ H Q h => lc_of h
theorem rs_setLc {i : Nat} {y : Str} {py : Pos} {elt tgt iter : Expr} {ifs : List Expr} {scope : Scope} {own : List (Str × Nat)} {pos spos : Pos} {m : IM} {tg : GM} {t : TM} {e : EM} (hc : X.calm = true) (hN : X.N.Nodup) (hy : X.N[i]? = some y) (hyl : X.env.scope.names.lookup y = some .local)
    (hsw : swapsWith (.ListComp elt [⟨tgt, iter, ifs, 0⟩] scope pos) (some (.Name y py)) spos.line X.env = pure true) (hi : RI X W tgt iter m) (ok : BlkOk X.N X.env.scope scope own)
    (hg : ∀ s H C cl fp, RG (BX X s H scope C cl fp) WF tgt (own.map (·.2)) tg) (ht : ∀ s H C cl fp, RTs (BX X s H scope C cl fp) WF ifs t) (he : ∀ s H C cl fp, RE (BX X s H scope C cl fp) WF elt e)
    (hfs : ∀ x, foldedSetIterable iter X.env x = pure x) : RS X W (.Assign [.Name y py] (.ListComp elt [⟨tgt, iter, ifs, 0⟩] scope pos) spos) (mSet i (mLc m (own.map (·.2)) tg t e)) :=
  ps_imp (ps_unl (ps_setLc (own := own) (g := tG X WF (own.map fun x : Str × Nat => x.2) tg) (tt := tT X WF t) (te := tO X WF e) hc hN hy hyl hsw hi ok hg ht he hfs)) fun D σ H ⟨ρ, S, Γ, hr, hg, q⟩ => by
    have h2 : tO X W (mLc m (own.map (·.2)) tg t e) σ H (fun v H' => D.nx (σ.set i (some v)) H') := ⟨ρ, S, Γ, hr, hg, q.bind.mono fun d S1 ρ1 H1 x1 hr1 ⟨_, q1⟩ v rv => (q1.ok hr1) _ ((hg.ext x1).set i rv)⟩
    exact lc_of h2
end
end KN
set_option maxHeartbeats 200000
/-! A set of texts, made of a list or tuple of texts, then sorted or counted. -/
namespace KN
open PySem PySem.Spec PyProof.Rows L2 PySem.Froz
section
variable {P : Program} {w : World} {A : Around} {E : Value → Shared → Prop} {s : Shared} {h h' : Heap} {a : Addr} {l : List Str}
/-- the set at a has the texts l, each once; its table can be walked -/
def SetX (P : Program) (w : World) (h : Heap) (a : Addr) (l : List Str) : Prop := ∃ D : SD, h.get? a = some (sObj "set" D) ∧ TxOk P w D l ∧ l.Nodup ∧ Ris D.2.2.place.toList ∧ (w.params.followText "set-order" = true ∨ D.2.2.led = true)
theorem SetX.at (R : SetX P w h a l) (k : ∀ o, h.get? a = some o → h'.get? a = some o) : SetX P w h' a l := by
  obtain ⟨D, e, r⟩ := R
  exact ⟨D, k _ e, r⟩
def insX (l : List Str) (k : Str) : List Str := if k ∈ l then l else k :: l
theorem setX_new : SetX P w (h.push { cls := .type "set", dict := none, data := .set #[] 0 (.fresh 0 0 (!w.params.followText "set-order")) }) h.objs.size [] :=
  ⟨(#[], 0, .fresh 0 0 (!w.params.followText "set-order")), Heap.get?_push_size _ rfl, TxOk.nil (by rfl), .nil, List.Pairwise.nil, by
    show _ ∨ (!w.params.followText "set-order") = true
    cases w.params.followText "set-order"
    · exact .inr rfl
    · exact .inl rfl⟩
theorem tail_ris {ep : Nat} {es1 : Array (Int × Value)} {t2 : SetTable} {wd : Bool} (r : Ris t2.place.toList) (hl : w.params.followText "set-order" = true ∨ t2.led = true) :
    Ris (tailTx ep es1 t2 wd).2.2.place.toList ∧ (w.params.followText "set-order" = true ∨ (tailTx ep es1 t2 wd).2.2.led = true) := by
  unfold tailTx
  split
  · exact ⟨relayAll_ris _ _ _, hl.imp id fun z => by rw [relayAll_led]; exact z⟩
  · exact ⟨r, hl⟩
theorem setX_add {k : Str} {u : Tok} {Q : Bool → Shared → Prop} (R : SetX P w s.heap a l) (hb : l.length + 1 < scanBound)
    (hQ : ∀ h' b, Heap.SameBut a s.heap h' → SetX P w h' a (insX l k) → Q b { s with heap := h' }) : wpAny (model P w) A (setAddHashed a (.str k u) (hashStr w k)) Q E s := by
  obtain ⟨D, ho, F, nd, hr, hl⟩ := R
  by_cases hk : k ∈ l
  · obtain ⟨es, ep, t⟩ := D
    have hd : (sObj "set" (es, ep, t)).data = .set es ep t := rfl
    have hb0 : es.size < scanBound := by have q : es.size = l.length := F.sz; omega
    have hkey : (strKind P w).is k (.str k u) = true := is_str k u
    unfold setAddHashed setAddHashedIn
    refine wpAny_holding (wpAny_bind (wpAny_setState_of ho hd F.fit ?_))
    dsimp only
    rw [byScan_of (knd := strKind P w) rfl hb0 F.el]
    simp only [↓reduceIte]
    unfold setAddByScan
    refine wpAny_bind ?_
    refine wpAny_bind (wpAny_rule ?_)
    refine wpAny_bind (wpAny_setScan_of (knd := strKind P w) (k := k) hkey ho hd F.fit F.el ?_)
    cases hfi : List.findIdx? (fun e => (strKind P w).is k e.2) es.toList with
    | some j =>
      dsimp only
      refine wpAny_pure (wpAny_pure (hQ s.heap _ (Heap.SameBut.refl a s.heap) ?_))
      unfold insX
      rw [if_pos hk]
      exact ⟨_, ho, F, nd, hr, hl⟩
    | none =>
      obtain ⟨e, he, q⟩ := (F.mem k).mp hk
      have c := List.findIdx?_eq_none_iff.mp hfi e he
      rw [q] at c
      cases c
  · refine add_x ho F hk hb ?_
    obtain ⟨es, ep, t⟩ := D
    have e1 := get_upd (sObj "set" (addTx (hashStr w k) (.str k u) (es, ep, t))) ho rfl
    have r1 := layNew_ris t es (hashStr w k) (.str k u) hr
    have l1 := layNew_led t es (hashStr w k) (.str k u)
    refine hQ _ _ (Heap.SameBut.update ..) ?_
    unfold insX
    rw [if_neg hk]
    refine ⟨_, e1, add_ok u F, List.nodup_cons.mpr ⟨hk, nd⟩, ?_⟩
    refine tail_ris ?_ (hl.imp id fun z => ?_)
    · show Ris (if (layNew t es (hashStr w k) (.str k u)).2.1.plain = true then { (layNew t es (hashStr w k) (.str k u)).2.1 with plain := false } else (layNew t es (hashStr w k) (.str k u)).2.1).place.toList
      split <;> exact r1
    · show (if (layNew t es (hashStr w k) (.str k u)).2.1.plain = true then { (layNew t es (hashStr w k) (.str k u)).2.1 with plain := false } else (layNew t es (hashStr w k) (.str k u)).2.1).led = true
      split <;> (show (layNew t es (hashStr w k) (.str k u)).2.1.led = true; rw [l1]; exact z)
def allX (ks : List Str) : List Str := ks.foldl insX []
theorem insX_mem {k j : Str} : j ∈ insX l k ↔ j ∈ l ∨ j = k := by
  unfold insX
  split
  · rename_i h
    exact ⟨.inl, fun q => q.elim id fun e => e ▸ h⟩
  · rw [List.mem_cons]; exact Or.comm
theorem insX_len {k : Str} : (insX l k).length ≤ l.length + 1 := by
  unfold insX
  split
  · omega
  · simp
theorem allX_step (ks : List Str) (i : Nat) {k : Str} (e : ks[i]? = some k) : allX (ks.take (i + 1)) = insX (allX (ks.take i)) k := by
  unfold allX
  rw [List.take_add_one, e, List.foldl_append] <;> rfl
theorem foldX_len : ∀ (ks l : List Str), (ks.foldl insX l).length ≤ l.length + ks.length
  | [], l => by simp
  | k :: ks, l => by
    have h1 := foldX_len ks (insX l k)
    have h2 := insX_len (l := l) (k := k)
    simp only [List.foldl_cons, List.length_cons]
    omega
theorem allX_len (ks : List Str) : (allX ks).length ≤ ks.length := by
  have := foldX_len ks []
  simpa [allX] using this
theorem foldX_mem : ∀ (ks l : List Str) (j : Str), j ∈ ks.foldl insX l ↔ j ∈ l ∨ j ∈ ks
  | [], l, j => by simp
  | k :: ks, l, j => by
    rw [List.foldl_cons, foldX_mem ks (insX l k) j, insX_mem, List.mem_cons]
    exact or_assoc
theorem allX_mem (ks : List Str) (j : Str) : j ∈ allX ks ↔ j ∈ ks := by
  unfold allX
  rw [foldX_mem]
  simp
theorem updateX {I : Addr} {fp wr : List Addr} {G : Array GenState → Array GenState → Prop} {n : Nat} {Pv : Nat → Value → Prop} {St : Nat → Shared → Prop} {R : Result → Shared → Prop}
    (W : WalksS P w A.in1 I fp wr G n Pv St) (S : Addr) (hSf : S ∉ fp) (ks : List Str) (hn : n = ks.length) (hb : ks.length + 1 < scanBound) (hval : ∀ i v, Pv i v → ∃ k t, ks[i]? = some k ∧ v = .str k t) :
    ∀ (m i : Nat) (s : Shared), n - i = m → i ≤ n → St i s → SetX P w s.heap S (allX (ks.take i)) →
      (∀ s', Moved (S :: wr) G s s' → SetX P w s'.heap S (allX ks) → R (.ok (.ret .none)) s') →
      codeAny (model P w) A (.builtin "set.update.loop" ⟨[.ref S, .ref I], []⟩) R s := by
  have hSw : S ∉ wr := fun h => hSf (W.sub _ h)
  have hsub : ∀ b ∈ wr, b ∈ S :: wr := fun b hb => List.mem_cons_of_mem _ hb
  intro m
  induction m with
  | zero =>
    intro i s hm hi hst hS hR
    have hin : i = n := by omega
    subst hin
    refine codeAny_builtin PyProof.Rows.F.entry_set_update_loop ?_
    rw [Around.under_plainId PyProof.Rows.F.plain_set_update_loop _]
    show wpAny _ A.in1 (pyNext (.ref I) >>= _) _ _ s
    refine wpAny_bind (W.done s _ _ hst fun s' hm => ?_)
    show wpAny _ A.in1 (ret Value.none) _ _ s'
    rw [List.take_of_length_le (by omega)] at hS
    exact wpAny_pure (hR s' (hm.mono hsub) (hS.at fun o e => hm.heap S o hSw e))
  | succ m ih =>
    intro i s hm hi hst hS hR
    have hlt : i < n := by omega
    refine codeAny_builtin PyProof.Rows.F.entry_set_update_loop ?_
    rw [Around.under_plainId PyProof.Rows.F.plain_set_update_loop _]
    show wpAny _ A.in1 (pyNext (.ref I) >>= _) _ _ s
    refine wpAny_bind (W.item i s _ _ hlt hst fun v s' hP hst' hm => ?_)
    obtain ⟨z, t, hz, rfl⟩ := hval i v hP
    have hS' := hS.at fun o e => hm.heap S o hSw e
    show wpAny _ A.in1 (holding [Value.str z t] (setAdd S (.str z t)) >>= _) _ _ s'
    refine wpAny_bind (wpAny_holding ?_)
    unfold setAdd
    refine wpAny_holding ?_
    refine wpAny_bind ((strKind P w).pyHash (k := z) (is_str z t) ?_)
    have hlen : (allX (ks.take i)).length + 1 < scanBound := by
      have h1 := allX_len (ks.take i)
      rw [List.length_take] at h1
      omega
    refine setX_add (s := { s' with toks := s'.toks + 1 }) hS' hlen fun h' b hsb hS2 => ?_
    rw [← allX_step ks i hz] at hS2
    refine wpAny_pure ⟨plainId_quiet PyProof.Rows.F.plain_set_update_loop _, ih (i + 1) _ (by omega) hlt (W.frame _ s' _ _ hst' (Nat.le_succ _) fun b hb o e => ?_) hS2 fun s'' hm'' hS'' => ?_⟩
    · rw [hsb.2 b (fun h : b = S => hSf (by rw [← h]; exact hb))]; exact e
    · refine hR s'' (Moved.trans W.gtrans ((hm.mono hsub).then_heap (Nat.le_succ _) fun b o hb e => ?_) hm'') hS''
      rw [hsb.2 b (fun h : b = S => hb (by rw [h]; exact List.mem_cons_self))]; exact e
end
end KN
set_option maxHeartbeats 200000
/-! set(..) of a tuple or list of texts. -/
namespace KN
open PySem PySem.Spec PyProof.Rows L2 PySem.Froz
section
variable {P : Program} {w : World} {A : Around} {E : Value → Shared → Prop} {s : Shared}
abbrev set0 (w : World) : Obj := { cls := .type "set", dict := none, data := .set #[] 0 (.fresh 0 0 (!w.params.followText "set-order")) }
theorem strsAre_len : ∀ {vs : List Value} {ks : List Str}, StrsAre vs ks → vs.length = ks.length
  | _, _, .nil => rfl
  | _, _, .cons _ _ h => by rw [List.length_cons, List.length_cons, strsAre_len h]
theorem strs_at : ∀ {vs : List Value} {ks : List Str}, StrsAre vs ks → ∀ (i : Nat) (v : Value), vs[i]? = some v → ∃ k t, ks[i]? = some k ∧ v = .str k t
  | _, _, .nil, i, v, h => by simp at h
  | _, _, .cons k t r, 0, v, h => by simp at h; exact ⟨k, t, rfl, h.symm⟩
  | _, _, .cons k t r, i + 1, v, h => by
    simp only [List.getElem?_cons_succ] at h ⊢
    exact strs_at r i v h
set_option maxHeartbeats 3200000 in
theorem call_setX_tuple {l : Addr} {items : Array Value} (ks : List Str) {Q : Value → Shared → Prop} (hh : A.handled = none) (hl : s.heap.IsTuple l items) (hit : StrsAre items.toList ks) (hb : ks.length + 1 < scanBound)
    (h : ∀ (h' : Heap) (tk : Nat), SetX P w h' s.heap.objs.size (allX ks) → (∀ b o, s.heap.get? b = some o → h'.get? b = some o) → Q (.ref s.heap.objs.size) { s with heap := h', toks := tk }) :
    wpAny (model P w) A (call (.type "set") [.ref l]) Q E s := by
  have hisz : items.size = ks.length := by
    have q := strsAre_len hit
    rw [Array.length_toList] at q
    exact q
  obtain ⟨c, tl, hmro⟩ := F.called_set.mro
  have hmade := F.called_set.made
  have hsub := F.called_set.sub
  refine wpAny_call (codeAny_of_tree ?_)
  show wpAny _ _ (callAny (.type "set") _) _ _ _
  refine wpAny_pure ⟨Code.quiet_builtin _ (by decide +kernel), codeAny_builtin F.entry_type_call ?_⟩
  rw [Around.under_plain (weight_type_call_type "set" [.ref l] []) rfl]
  have h1 := F.called_set.notType
  have h2 := F.called_set.canCreate
  have hct := F.typeCall_set_1 (.ref l)
  repeat (any_goals (first | assumption | wp_step))
  refine codeAny_mono (code_set_led1 (.ref l) (E := E) (Q₁ := fun obj s₁ => obj = .ref s.heap.objs.size ∧ s₁ = { s with heap := s.heap.push (set0 w) }) ⟨rfl, rfl⟩) fun r s₁ hr => ?_
  cases r with
  | error e => exact hr
  | ok fl =>
    cases fl with
    | ret obj =>
      obtain ⟨rfl, rfl⟩ := hr
      have hS : (s.heap.push (set0 w)).get? s.heap.objs.size = some (set0 w) := Heap.get?_push_size _ rfl
      have hT : Shared.TypeIs { s with heap := s.heap.push (set0 w) } (.ref s.heap.objs.size) "set" := ⟨_, hS, rfl⟩
      have hli := F.called_set.init.lookup
      have hbi := F.called_set.init.bind (.ref s.heap.objs.size)
      repeat (any_goals (first | assumption | wp_step))
      refine codeAny_mono (codeAny_call_builtin (R := wants (fun r s₂ => r = .none ∧ ∃ h' tk, s₂ = { s with heap := h', toks := tk } ∧ SetX P w h' s.heap.objs.size (allX ks) ∧
          (∀ b o, s.heap.get? b = some o → h'.get? b = some o)) E) F.called_set.init.plain F.entry_set_init (check_set_init_1 hT ?_)) fun r₂ s₂ hr₂ => ?_
      · obtain ⟨ol, hol, hcl, nl, hdl⟩ := hl
        obtain ⟨ocls, odict, odata, oslots⟩ := ol
        simp only at hcl hdl
        subst hcl; subst hdl
        have hol' : (s.heap.push (set0 w)).get? l = some { cls := .type "tuple", dict := odict, data := .seq items nl, slots := oslots } := Heap.get?_push_of_some _ hol
        have hsls := F.sub_tuple_set
        have hslf := F.sub_tuple_frozenset
        have hne : (Value.type "tuple" == Value.type "dict") = false := by decide
        have hl1 : (s.heap.push (set0 w)).IsTuple l items := ⟨_, hol', rfl, nl, rfl⟩
        unfold Builtin.«set.__init__» noKeywords Builtin.Frozenset.updateFrom
        generalize hPI : pyIter = PI
        wp_walk
        subst hPI
        refine wpAny_pyIter_tuple hl1 ?_
        refine wpAny_bind (wpAny_runValue ?_)
        have hlS : l < s.heap.objs.size := Heap.lt_size hol
        have hh3 : A.in1.in1.in1.handled = none := by simp [hh]
        have hneI : l ≠ (s.heap.push (set0 w)).objs.size := by
          rw [Heap.size_push]; exact Nat.ne_of_lt (Nat.lt_succ_of_lt hlS)
        have hSf : s.heap.objs.size ∉ [(s.heap.push (set0 w)).objs.size, l] := by
          rw [Heap.size_push]; simp only [List.mem_cons, List.mem_singleton, List.not_mem_nil, or_false, not_or]
          exact ⟨Nat.ne_of_lt (Nat.lt_succ_self _), Nat.ne_of_gt hlS⟩
        have hval : ∀ (i : Nat) (v : Value), items[i]? = some v → ∃ k t, ks[i]? = some k ∧ v = .str k t := fun i v hv => strs_at hit i v (by rw [Array.getElem?_toList]; exact hv)
        refine updateX ((Walks.tuple hh3 _ l hneI items).toS) s.heap.objs.size hSf ks hisz hb hval (items.size - 0) 0 _ (by omega) (Nat.zero_le _)
          ⟨⟨_, Heap.get?_push_size _ rfl, rfl, rfl⟩, (hl1.push _)⟩ ?hS0 ?hR
        case hS0 =>
          exact (setX_new (P := P)).at fun o e => Heap.get?_push_of_some _ e
        case hR =>
          intro s' hm hS'
          obtain ⟨h', g2, d', tk', os'⟩ := s'
          have eg : g2 = s.gens := hm.gens
          have ed : d' = s.drawn := hm.drawn
          have eo : os' = s.os := hm.os
          subst eg; subst ed; subst eo
          show wpAny _ _ _ _ _ _
          refine wpAny_pure ?_
          show wpAny _ _ (ret Value.none) _ _ _
          refine wpAny_pure ⟨rfl, h', tk', rfl, hS', fun b o e => ?_⟩
          have hb0 : b < s.heap.objs.size := Heap.lt_size e
          have hb1 : b ≠ s.heap.objs.size := Nat.ne_of_lt hb0
          have hb2 : b ≠ (s.heap.push (set0 w)).objs.size := by
            rw [Heap.size_push]; exact Nat.ne_of_lt (Nat.lt_succ_of_lt hb0)
          exact hm.heap b o (by simp only [List.mem_cons, List.mem_singleton, List.not_mem_nil, or_false, not_or]; exact ⟨hb1, hb2⟩) (Heap.get?_push_of_some _ (Heap.get?_push_of_some _ e))
      · cases r₂ with
        | error e => exact hr₂
        | ok fl₂ =>
          cases fl₂ with
          | ret r =>
            obtain ⟨rfl, h', tk, rfl, hS', hk'⟩ := hr₂
            repeat (any_goals (first | assumption | wp_step))
            exact h _ _ hS' hk'
          | _ => exact hr₂.elim
    | _ => exact hr.elim
set_option maxHeartbeats 3200000 in
theorem call_setX_list {l : Addr} {items : Array Value} (ks : List Str) {Q : Value → Shared → Prop} (hh : A.handled = none) (hl : s.heap.IsList l items) (hit : StrsAre items.toList ks) (hb : ks.length + 1 < scanBound)
    (h : ∀ (h' : Heap) (tk : Nat), SetX P w h' s.heap.objs.size (allX ks) → (∀ b o, s.heap.get? b = some o → h'.get? b = some o) → Q (.ref s.heap.objs.size) { s with heap := h', toks := tk }) :
    wpAny (model P w) A (call (.type "set") [.ref l]) Q E s := by
  have hisz : items.size = ks.length := by
    have q := strsAre_len hit
    rw [Array.length_toList] at q
    exact q
  obtain ⟨c, tl, hmro⟩ := F.called_set.mro
  have hmade := F.called_set.made
  have hsub := F.called_set.sub
  refine wpAny_call (codeAny_of_tree ?_)
  show wpAny _ _ (callAny (.type "set") _) _ _ _
  refine wpAny_pure ⟨Code.quiet_builtin _ (by decide +kernel), codeAny_builtin F.entry_type_call ?_⟩
  rw [Around.under_plain (weight_type_call_type "set" [.ref l] []) rfl]
  have h1 := F.called_set.notType
  have h2 := F.called_set.canCreate
  have hct := F.typeCall_set_1 (.ref l)
  repeat (any_goals (first | assumption | wp_step))
  refine codeAny_mono (code_set_led1 (.ref l) (E := E) (Q₁ := fun obj s₁ => obj = .ref s.heap.objs.size ∧ s₁ = { s with heap := s.heap.push (set0 w) }) ⟨rfl, rfl⟩) fun r s₁ hr => ?_
  cases r with
  | error e => exact hr
  | ok fl =>
    cases fl with
    | ret obj =>
      obtain ⟨rfl, rfl⟩ := hr
      have hS : (s.heap.push (set0 w)).get? s.heap.objs.size = some (set0 w) := Heap.get?_push_size _ rfl
      have hT : Shared.TypeIs { s with heap := s.heap.push (set0 w) } (.ref s.heap.objs.size) "set" := ⟨_, hS, rfl⟩
      have hli := F.called_set.init.lookup
      have hbi := F.called_set.init.bind (.ref s.heap.objs.size)
      repeat (any_goals (first | assumption | wp_step))
      refine codeAny_mono (codeAny_call_builtin (R := wants (fun r s₂ => r = .none ∧ ∃ h' tk, s₂ = { s with heap := h', toks := tk } ∧ SetX P w h' s.heap.objs.size (allX ks) ∧
          (∀ b o, s.heap.get? b = some o → h'.get? b = some o)) E) F.called_set.init.plain F.entry_set_init (check_set_init_1 hT ?_)) fun r₂ s₂ hr₂ => ?_
      · obtain ⟨ol, hol, hcl, nl, hdl⟩ := hl
        obtain ⟨ocls, odict, odata, oslots⟩ := ol
        simp only at hcl hdl
        subst hcl; subst hdl
        have hol' : (s.heap.push (set0 w)).get? l = some { cls := .type "list", dict := odict, data := .seq items nl, slots := oslots } := Heap.get?_push_of_some _ hol
        have hsls := F.sub_list_set
        have hslf := F.sub_list_frozenset
        have hne : (Value.type "list" == Value.type "dict") = false := by decide
        have hl1 : (s.heap.push (set0 w)).IsList l items := ⟨_, hol', rfl, nl, rfl⟩
        unfold Builtin.«set.__init__» noKeywords Builtin.Frozenset.updateFrom
        generalize hPI : pyIter = PI
        wp_walk
        subst hPI
        refine wpAny_pyIter_list hl1 ?_
        refine wpAny_bind (wpAny_runValue ?_)
        have hlS : l < s.heap.objs.size := Heap.lt_size hol
        have hh3 : A.in1.in1.in1.handled = none := by simp [hh]
        have hneI : l ≠ (s.heap.push (set0 w)).objs.size := by
          rw [Heap.size_push]; exact Nat.ne_of_lt (Nat.lt_succ_of_lt hlS)
        have hSf : s.heap.objs.size ∉ [(s.heap.push (set0 w)).objs.size, l] := by
          rw [Heap.size_push]; simp only [List.mem_cons, List.mem_singleton, List.not_mem_nil, or_false, not_or]
          exact ⟨Nat.ne_of_lt (Nat.lt_succ_self _), Nat.ne_of_gt hlS⟩
        have hval : ∀ (i : Nat) (v : Value), items[i]? = some v → ∃ k t, ks[i]? = some k ∧ v = .str k t := fun i v hv => strs_at hit i v (by rw [Array.getElem?_toList]; exact hv)
        refine updateX ((Walks.list hh3 _ l hneI items).toS) s.heap.objs.size hSf ks hisz hb hval (items.size - 0) 0 _ (by omega) (Nat.zero_le _)
          ⟨⟨_, Heap.get?_push_size _ rfl, rfl, rfl⟩, (hl1.push _)⟩ ?hS0 ?hR
        case hS0 =>
          exact (setX_new (P := P)).at fun o e => Heap.get?_push_of_some _ e
        case hR =>
          intro s' hm hS'
          obtain ⟨h', g2, d', tk', os'⟩ := s'
          have eg : g2 = s.gens := hm.gens
          have ed : d' = s.drawn := hm.drawn
          have eo : os' = s.os := hm.os
          subst eg; subst ed; subst eo
          show wpAny _ _ _ _ _ _
          refine wpAny_pure ?_
          show wpAny _ _ (ret Value.none) _ _ _
          refine wpAny_pure ⟨rfl, h', tk', rfl, hS', fun b o e => ?_⟩
          have hb0 : b < s.heap.objs.size := Heap.lt_size e
          have hb1 : b ≠ s.heap.objs.size := Nat.ne_of_lt hb0
          have hb2 : b ≠ (s.heap.push (set0 w)).objs.size := by
            rw [Heap.size_push]; exact Nat.ne_of_lt (Nat.lt_succ_of_lt hb0)
          exact hm.heap b o (by simp only [List.mem_cons, List.mem_singleton, List.not_mem_nil, or_false, not_or]; exact ⟨hb1, hb2⟩) (Heap.get?_push_of_some _ (Heap.get?_push_of_some _ e))
      · cases r₂ with
        | error e => exact hr₂
        | ok fl₂ =>
          cases fl₂ with
          | ret r =>
            obtain ⟨rfl, h', tk, rfl, hS', hk'⟩ := hr₂
            repeat (any_goals (first | assumption | wp_step))
            exact h _ _ hS' hk'
          | _ => exact hr₂.elim
    | _ => exact hr.elim
end
end KN
set_option maxHeartbeats 200000
/-! sorted(set of texts), len(set of texts). -/
namespace KN
open PySem PySem.Spec PyProof.Rows L2 PySem.Froz
def leX : Str → Str → Bool := fun a b => decide (a.cps.toList ≤ b.cps.toList)
/-- the texts of a list, each once, ascending -/
def sortX (ks : List Str) : List Str := (allX ks).mergeSort leX
theorem leX_trans (a b c : Str) (h : leX a b = true) (g : leX b c = true) : leX a c = true := by
  unfold leX at *
  exact decide_eq_true (List.le_trans (of_decide_eq_true h) (of_decide_eq_true g))
theorem leX_total (a b : Str) : (leX a b || leX b a) = true := by
  unfold leX
  rw [Bool.or_eq_true, decide_eq_true_eq, decide_eq_true_eq]
  exact List.le_total _ _
theorem leX_anti (a b : Str) (h : leX a b = true) (g : leX b a = true) : a = b := by
  unfold leX at *
  have e := List.le_antisymm (of_decide_eq_true h) (of_decide_eq_true g)
  obtain ⟨⟨x⟩⟩ := a
  obtain ⟨⟨y⟩⟩ := b
  dsimp only at e
  rw [e]
theorem sort_perm {xs ys : List Str} (p : xs.Perm ys) : xs.mergeSort leX = ys.mergeSort leX := by
  refine List.Perm.eq_of_pairwise (le := fun a b => leX a b = true) ?_ (List.pairwise_mergeSort leX_trans leX_total xs) (List.pairwise_mergeSort leX_trans leX_total ys) (((List.mergeSort_perm xs leX).trans p).trans (List.mergeSort_perm ys leX).symm)
  exact fun a b _ _ h g => leX_anti a b h g
theorem perm_sub : ∀ {l ks : List Str}, l.Nodup → (∀ k ∈ l, k ∈ ks) → ks.length = l.length → ks.Perm l
  | [], ks, _, _, e => by
    have : ks = [] := List.length_eq_zero_iff.mp e
    rw [this]
  | k :: l, ks, nd, h, e => by
    obtain ⟨n1, n2⟩ := List.nodup_cons.mp nd
    have hk := h k List.mem_cons_self
    have p := List.perm_cons_erase hk
    refine p.trans (List.Perm.cons k (perm_sub n2 (fun j hj => ?_) ?_))
    · have hne : j ≠ k := fun q => n1 (q ▸ hj)
      exact (List.mem_erase_of_ne hne).mpr (h j (List.mem_cons_of_mem _ hj))
    · rw [List.length_erase_of_mem hk, e, List.length_cons]; omega
section
variable {P : Program} {w : World} {A : Around} {E : Value → Shared → Prop} {s : Shared} {a : Addr} {l : List Str}
def strOf : Value → Str
  | .str k _ => k
  | _ => Str.empty
theorem strs_of : ∀ (vs : List Value), (∀ v ∈ vs, ∃ k t, v = Value.str k t) → StrsAre vs (vs.map strOf)
  | [], _ => .nil
  | v :: vs, h => by
    obtain ⟨k, t, rfl⟩ := h v List.mem_cons_self
    exact .cons k t (strs_of vs fun u hu => h u (List.mem_cons_of_mem _ hu))
theorem txt_vals {D : SD} (F : TxOk P w D l) (nd : l.Nodup) {vs : List Value} (p : vs.Perm (D.1.toList.map (·.2))) : StrsAre vs (vs.map strOf) ∧ (vs.map strOf).Perm l := by
  have hv : ∀ v ∈ vs, ∃ k t, v = Value.str k t := fun v hv => by
    obtain ⟨e, he, rfl⟩ := List.mem_map.mp (p.mem_iff.mp hv)
    obtain ⟨⟨k, hk, _⟩, _⟩ := F.el e he
    obtain ⟨t, q⟩ := Value.isStrOf_shape (show Value.isStrOf k e.2 = true from hk)
    exact ⟨k, t, q⟩
  refine ⟨strs_of vs hv, perm_sub nd (fun k hk => ?_) ?_⟩
  · obtain ⟨e, he, q⟩ := (F.mem k).mp hk
    obtain ⟨t, q2⟩ := Value.isStrOf_shape (show Value.isStrOf k e.2 = true from q)
    exact List.mem_map.mpr ⟨e.2, p.mem_iff.mpr (List.mem_map.mpr ⟨e, he, rfl⟩), by rw [q2] <;> rfl⟩
  · rw [List.length_map, p.length_eq, List.length_map, Array.length_toList]
    exact F.sz
theorem each_strs : ∀ {vs : List Value} {ks : List Str}, StrsAre vs ks → W.EachIs (fun v k => ∃ t, v = Value.str k t) vs ks
  | _, _, .nil => .nil
  | _, _, .cons k t r => .cons ⟨t, rfl⟩ (each_strs r)
theorem each_imp {α β : Type} {R R' : α → β → Prop} (f : ∀ a b, R a b → R' a b) : ∀ {l : List α} {m : List β}, W.EachIs R l m → W.EachIs R' l m
  | _, _, .nil => .nil
  | _, _, .cons h t => .cons (f _ _ h) (each_imp f t)
theorem alike_strs (ks : List Str) : W.AllAlike (ks.map PyData.str) := W.AllAlike.of fun _ _ => rfl
theorem le_strs : W.dataLe false (fun k : Str => PyData.str k) = leX := by
  have := W.dataLe_str (fun k : Str => k)
  exact this
theorem sorted_setX {Q : Value → Shared → Prop} (R : SetX P w s.heap a l) (hh : A.handled = none) (hu : A.units + 3 < cLine) (hb : l.length < scanBound)
    (hQ : ∀ s' p (out : List Value) (c : Nat), (∀ b o, s.heap.get? b = some o → s'.heap.get? b = some o) → s'.gens = s.gens → s'.os = s.os → s.heap.objs.size ≤ p →
      s'.heap.get? p = some (seqObj "list" out.toArray c) → StrsAre out (l.mergeSort leX) → Q (.ref p) s') :
    wpAny (model P w) A (call (.builtin "sorted") [.ref a]) Q E s := by
  obtain ⟨D, ho, Fx, nd, hr, hl⟩ := R
  have hsz : D.1.size < scanBound := by rw [Fx.sz]; exact hb
  refine Calls.call_function_entry kind_sorted plain_sorted entry_sorted (args_sorted1 _) ?_
  unfold Builtin.«sorted»
  refine wpAny_bind (m := checkCount "sorted" 1 1 _) (wpAny_pure ?_)
  refine wpAny_bind (collect_set (A := A.in1) hh ⟨_, ho, rfl, rfl⟩ Fx.fit hsz hr hl fun s1 vs k1 hz g1 o1 pm => ?_)
  obtain ⟨hS, pk⟩ := txt_vals Fx nd pm
  have hvl : vs.length = l.length := by rw [← pk.length_eq, List.length_map]
  have hz2 : vs.length ≤ sizeLine := by rw [hvl]; exact fits_of_scanBound hb
  refine wpAny_bind (wpAny_newList ?_ hz2)
  have hoL : (s1.heap.push (seqObj "list" vs.toArray 0)).get? s1.heap.objs.size = some (seqObj "list" vs.toArray 0) := Heap.get?_push_size _ rfl
  refine wpAny_bind (wpAny_holding (W.list_sort_data (R := fun v k => ∃ t, v = Value.str k t) (enc := fun k : Str => PyData.str k) (s := { s1 with heap := s1.heap.push (seqObj "list" vs.toArray 0) }) hoL (each_strs hS) (each_imp (fun v k ⟨t, e⟩ => ⟨[], by rw [e]; exact ⟨.str _ _, by simp⟩⟩) (each_strs hS)) (alike_strs _)
    (W.Sortable.others fun k => ⟨(nofun), fun xs => (nofun)⟩) (by rw [List.length_map]; exact hz2) (fun k _ => by show A.in1.units + 1 + 0 < cLine; have : A.in1.units = A.units + 1 := rfl; omega) fun out hol eo => ?_))
  rw [le_strs, sort_perm pk] at eo
  obtain ⟨c, hc⟩ := sortedHeap_at (vs := vs) (out := out.toArray) hoL
  refine wpAny_pure ⟨_, rfl, hQ _ s1.heap.objs.size out c (fun b u e => ?_) g1 o1 hz hc ?_⟩
  · have q := k1 b u e
    have hlt := Heap.lt_size q
    show (sortedHeap (s1.heap.push (seqObj "list" vs.toArray 0)) s1.heap.objs.size vs out.toArray).get? b = some u
    rw [sortedHeap_old (Nat.ne_of_lt hlt) (by rw [size_push']; exact Nat.lt_succ_of_lt hlt)]
    exact Heap.get?_push_of_some _ q
  · generalize l.mergeSort leX = ks at eo
    clear hc hol
    induction eo with
    | nil => exact .nil
    | cons h t ih =>
      obtain ⟨t', rfl⟩ := h
      exact .cons _ t' ih
end
end KN
set_option maxHeartbeats 200000
namespace KN
open PySem PySem.Spec PyProof.Rows L2
section
variable {X : Cx} {W : WX} {σ σ' : L2.St} {ρ ρ1 : List Addr} {H H1 : Hp} {pins : List (Addr × Obj)} {s : Shared}
def setHO (P : Program) (w : World) (a : Addr) (l : List Str) : HO := .ext fun h => SetX P w h a l
theorem setHO_new {P : Program} {w : World} {h : Heap} {a : Addr} {l : List Str} (R : SetX P w h a l) : ObjOk P w H h a (setHO P w a l) := by
  have ⟨D, ho, _⟩ := R
  exact ⟨R, ⟨_, ho⟩, fun h1 h2 p k => SetX.at p k⟩
theorem setHO_get {a : Addr} {l : List Str} (I : Inv X pins σ H s) (e : H a = some (setHO X.prog X.w a l)) : SetX X.prog X.w s.heap a l := (I.hok a _ e).1
def rSetX (X : Cx) : List V → Hp → VK → Prop := fun xs H Q => ∃ p ks, xs = [.ref p] ∧ (SqL X.K H p (ks.map V.str) ∨ SqT X.K H p (ks.map V.str)) ∧ ks.length + 1 < scanBound ∧ ∀ q, H q = none → Q (.ref q) (upd H q (setHO X.prog X.w q (allX ks)))
theorem call_setR (hc : X.calm = true) : CallR X (.type "set") (rSetX X) := by
  intro pins s σ H xs us Q I r h
  obtain ⟨p, ks, rfl, hq, hb, q⟩ := h
  obtain ⟨u, rfl, ru⟩ := vals1 r
  cases ru
  have fin : ∀ (h' : Heap) (tk : Nat), SetX X.prog X.w h' s.heap.objs.size (allX ks) → (∀ b o, s.heap.get? b = some o → h'.get? b = some o) → EP X pins σ Q (.ref s.heap.objs.size) { s with heap := h', toks := tk } := fun h' tk R k =>
    ⟨.ref s.heap.objs.size, _, I.laid (t' := tk) k (Nat.le_refl _) (setHO_new R), rfl, q _ (I.hok.fresh (Nat.le_refl _))⟩
  rcases hq with hq | hq
  · obtain ⟨its, rv, pl, hz⟩ := I.list hq
    exact call_setX_list ks (I.ok.hd hc) (items := its.toArray) pl.isList (by rw [List.toList_toArray]; exact strs_of_vals rv) hb fin
  · obtain ⟨its, rv, pt, hz⟩ := I.tuple hq
    exact call_setX_tuple ks (I.ok.hd hc) (items := its.toArray) (show s.heap.IsTuple p its.toArray from pt) (by rw [List.toList_toArray]; exact strs_of_vals rv) hb fin
def rSortX (X : Cx) : List V → Hp → VK → Prop := fun xs H Q => ∃ a l, xs = [.ref a] ∧ H a = some (setHO X.prog X.w a l) ∧ l.length < scanBound ∧ ∀ q, H q = none → Q (.ref q) (upd H q (.lst ((l.mergeSort leX).map V.str)))
theorem vals_strs : ∀ {vs : List Value} {ks : List Str}, StrsAre vs ks → Vals (ks.map V.str) vs
  | _, _, .nil => .nil
  | _, _, .cons k t r => .cons ⟨t, rfl⟩ (vals_strs r)
theorem call_sortX (hc : X.calm = true) (hu : X.A.units + 64 < cLine) : CallR X (.builtin "sorted") (rSortX X) := by
  intro pins s σ H xs us Q I r h
  obtain ⟨a, l, rfl, ha, hb, q⟩ := h
  obtain ⟨u, rfl, ru⟩ := vals1 r
  cases ru
  refine sorted_setX (setHO_get I ha) (I.ok.hd hc) (by omega) hb fun s' p out c k g o hp hL hS => ?_
  have hv := vals_strs hS
  have hz : ((l.mergeSort leX).map V.str).length ≤ sizeLine := by
    rw [List.length_map, (List.mergeSort_perm l leX).length_eq]
    exact fits_of_scanBound hb
  exact ⟨.ref p, _, I.call' (ch := []) o (Un.laid k hp (I.hok.fresh hp)) (I.hok.laid k hp (show ObjOk X.prog X.w _ _ _ (.lst ((l.mergeSort leX).map V.str)) from ⟨hz, out, c, hv, hL⟩)) (by rw [g]; exact I.bare) (fun _ z => nomatch z), rfl, q _ (I.hok.fresh hp)⟩
def strsD : List DV → Option (List Str)
  | [] => some []
  | .str x :: r => (strsD r).map (x :: ·)
  | _ :: _ => none
theorem strs_rep : ∀ {l : List DV} {ks : List Str} {vs : List V}, strsD l = some ks → RepVs X.K ρ H l vs → vs = ks.map V.str
  | [], ks, vs, e, r => by cases e; rw [RepVs] at r; exact r
  | d :: ds, ks, vs, e, r => by
    rw [RepVs] at r
    obtain ⟨v, us, rfl, r1, r2⟩ := r
    cases d <;> simp [strsD] at e
    obtain ⟨cs, e1, rfl⟩ := e
    cases rep_str r1
    rw [strs_rep e1 r2]
    rfl
theorem reps_strs : ∀ ks : List Str, RepVs X.K ρ H (ks.map DV.str) (ks.map V.str)
  | [] => .nil
  | k :: ks => .cons rep_s (reps_strs ks)
/-- sorted(set(e)) -/
def mSortSet (m : AM) : EM := fun Γ S => (m Γ S).bind fun ds S1 => match ds with
  | [d] => match itemsOf S1 d with
    | some l => match strsD l with
      | some ks => if ks.length + 1 < scanBound then newLst ((sortX ks).map .str) S1 else .bad
      | none => .bad
    | none => .bad
  | _ => .bad
theorem re_sortSet {e : Expr} {m : AM} {p1 p2 pos1 pos2 : Pos} (hc : X.calm = true) (hu : X.A.units + 64 < cLine) (hg1 : Gl X "set") (hm1 : X.mg "set" = none) (hg2 : Gl X "sorted") (hm2 : X.mg "sorted" = none) (ha : RA X W [e] m)
    (he : starEach [e] X.env = (false, eval e X.env) :: starEach [] X.env) :
    RE X W (.Call (.Name "sorted" p2) [.Call (.Name "set" p1) [e] [] pos1] [] pos2) (mSortSet m) := by
  have h1 : PE X (.Call (.Name "set" p1) [e] [] pos1) (tCB (rSetX X) (tA X W m)) := pe_callTy (call_setR hc) hg1 hm1 PyProof.Rows.boot_set ha (by decide) (by decide) he rfl
  refine pe_imp (pe_callB (call_sortX hc hu) hg2 hm2 (by rfl) (pa_cons h1 pa_nil rfl) (by decide) (by decide) rfl rfl) fun σ H Q ⟨ρ, S, Γ, hr, hg, q⟩ => ?_
  refine ⟨ρ, S, Γ, hr, hg, q.bind.mono fun ds S1 ρ1 H1 x1 hr1 ⟨_, q1⟩ vs rvs => ?_⟩
  split at q1
  · split at q1
    · rename_i l el
      split at q1
      · rename_i ks ek
        split at q1
        · rename_i hb
          obtain ⟨v, rfl, r⟩ := reps1 rvs
          obtain ⟨p, us, rfl, sv, r1⟩ := itemsOf_rep hr1 el r
          have eu := strs_rep ek r1
          subst eu
          refine ⟨p, ks, rfl, sv, hb, fun a ha => ⟨a, allX ks, rfl, upd_same, by have := allX_len ks; omega, fun z hz => ?_⟩⟩
          exact lst_made (hr_tup hr1 ha) (reps_strs _) (q1.shift (ext_tup ha)) hz _ (rep_new (hr_tup hr1 ha))
        · exact q1.elim
      · exact q1.elim
    · exact q1.elim
  · exact q1.elim
end
end KN
set_option maxHeartbeats 200000
namespace KN
open PySem PySem.Spec PyProof.Rows L2
section
variable {X : Cx} {W : WX} {σ σ' : L2.St} {ρ ρ1 : List Addr} {H H1 : Hp} {pins : List (Addr × Obj)} {s : Shared}
/-! ### sorted(a list), by data -/
abbrev bsOf (l : List DV) (as : List PyData) : List (DV × PyData) := l.zip as
def notTN : PyData → Bool
  | .none => false
  | .tuple _ => false
  | _ => true
def tup1 : PyData → Bool
  | .tuple (_ :: _) => true
  | _ => false
def sortOk (as : List PyData) : Bool := (as.all fun d => as.all fun e => PySem.W.alike d e) && (as.all tup1 || as.all notTN) && as.all fun d => decide (d.depth ≤ 20)
def sortD (l : List DV) (as : List PyData) : List DV := ((l.zip as).mergeSort (PySem.W.dataLe false fun p => p.2)).map (·.1)
def oSorted : List DV → DM DV
  | [.ref n] => fun S => match S[n]? with
    | some (.lst l) => match mapO (dData S 12) l with
      | some as => if sortOk as = true then newLst (sortD l as) S else .bad
      | none => .bad
    | _ => .bad
  | _ => fun _ => .bad
/-- what sorted asks: the items as values and data -/
def rSorted (K : PySem.W.Frag) : List V → Hp → VK → Prop := fun xs H Q => ∃ (p : Addr) (zs : List (V × PyData)), xs = [.ref p] ∧ SqL K H p (zs.map (·.1)) ∧ (∀ z, z ∈ zs → Dp K H z.1 z.2) ∧ sortOk (zs.map (·.2)) = true ∧
  ∀ q, H q = none → Q (.ref q) (upd H q (.lst ((zs.mergeSort (PySem.W.dataLe false fun z => z.2)).map (·.1))))
theorem each_of {R : Value → V × PyData → Prop} : ∀ {zs : List (V × PyData)} {us : List Value}, Vals (zs.map (·.1)) us → (∀ z ∈ zs, ∀ u, RelV z.1 u → R u z) → PySem.W.EachIs R us zs
  | [], us, h, _ => by cases h; exact .nil
  | z :: zs, us, h, f => by
    cases h with
    | cons h1 h2 => exact .cons (f z List.mem_cons_self _ h1) (each_of h2 fun z' hz => f z' (List.mem_cons_of_mem _ hz))
theorem each_vals : ∀ {zs : List (V × PyData)} {us : List Value}, PySem.W.EachIs (fun u z => RelV z.1 u) us zs → Vals (zs.map (·.1)) us
  | _, _, .nil => .nil
  | _, _, .cons h t => .cons h (each_vals t)
theorem call_sortedD (hu : X.A.units + 64 < cLine) : CallR X (.builtin "sorted") (rSorted X.K) := by
  intro pins s σ H xs us Q I r h
  obtain ⟨p, zs, rfl, hq, hd, hok, q⟩ := h
  obtain ⟨u, rfl, ru⟩ := vals1 r
  cases ru
  obtain ⟨its, rv, pl, hz⟩ := I.list hq
  unfold sortOk at hok
  simp only [Bool.and_eq_true, List.all_eq_true, Bool.or_eq_true] at hok
  obtain ⟨⟨h1, h2⟩, h3⟩ := hok
  have hlen : zs.length ≤ sizeLine := by rw [List.length_map] at hz; exact hz
  refine PySem.W.sorted_data (R := fun u z => RelV z.1 u) (enc := fun z : V × PyData => z.2) (s := s) pl.isList (each_of rv fun z _ u r => r) (each_of rv fun z hz u r => Dp.reads I z.2 z.1 u (hd z hz) r) (fun d hd' e he' => h1 d hd' e he') ?_ hlen (fun b hb => ?_) fun out hol eo => ?_
  · rcases h2 with h2 | h2
    · exact .inl fun d hd' => by
        have := h2 d hd'
        unfold tup1 at this
        split at this
        · exact ⟨_, _, rfl⟩
        · cases this
    · exact .inr fun d hd' => by
        have := h2 d hd'
        unfold notTN at this
        split at this
        · cases this
        · cases this
        · rename_i a b
          exact ⟨a, b⟩
  · have := of_decide_eq_true (h3 b.2 (List.mem_map.mpr ⟨b, hb, rfl⟩))
    omega
  · have ov := each_vals eo
    have hl : ((zs.mergeSort (PySem.W.dataLe false fun z => z.2)).map (·.1)).length ≤ sizeLine := by rw [List.length_map, (List.mergeSort_perm _ _).length_eq]; exact hlen
    obtain ⟨ep, he'⟩ := PyProof.Rows.sortedAll_at s.heap its out.toArray
    exact ⟨.ref _, _, I.laid (t' := s.toks) (fun _ _ => PyProof.Rows.sortedAll_old) (Nat.le_succ _) (show ObjOk X.prog X.w _ _ _ (.lst ((zs.mergeSort (PySem.W.dataLe false fun z => z.2)).map (·.1))) from ⟨hl, out, ep, ov, he'⟩), rfl, q _ (I.hok.fresh (Nat.le_succ _))⟩
/-- three lists that go together -/
theorem zip3 : ∀ {l : List DV} {as : List PyData} {vs : List V} {F : DV → Option PyData}, mapO F l = some as → RepVs X.K ρ H l vs → (∀ d a v, F d = some a → XRep X ρ H d v → Dp X.K H v a) →
    (vs.zip as).map (·.1) = vs ∧ (vs.zip as).map (·.2) = as ∧ (∀ z ∈ vs.zip as, Dp X.K H z.1 z.2) ∧ Paired (fun (p : DV × PyData) (z : V × PyData) => p.2 = z.2 ∧ XRep X ρ H p.1 z.1) (l.zip as) (vs.zip as)
  | [], as, vs, F, e, r, f => by
    cases e
    rw [RepVs] at r
    subst r
    exact ⟨rfl, rfl, (fun z hz => by cases hz), .nil⟩
  | d :: ds, as, vs, F, e, r, f => by
    rw [RepVs] at r
    obtain ⟨v, us, rfl, r1, r2⟩ := r
    unfold mapO at e
    split at e
    · rename_i b bs e1 e2
      cases e
      obtain ⟨i1, i2, i3, i4⟩ := zip3 e2 r2 f
      refine ⟨by rw [List.zip_cons_cons, List.map_cons, i1], by rw [List.zip_cons_cons, List.map_cons, i2], fun z hz => ?_, .cons ⟨rfl, r1⟩ i4⟩
      rw [List.zip_cons_cons] at hz
      rcases List.mem_cons.mp hz with rfl | hz
      · exact f d b v e1 r1
      · exact i3 z hz
    · cases e
/-- sorting goes along -/
theorem paired_perm {α β γ : Type} (F : α → β → Prop) (ka : α → γ) (kb : β → γ) (hk : ∀ a b, F a b → ka a = kb b) (le : γ → γ → Bool) (l : List α) (m : List β) (h : Paired F l m) :
    Paired F (l.mergeSort fun a b => le (ka a) (ka b)) (m.mergeSort fun a b => le (kb a) (kb b)) := by
  -- both are the images of one sorted list of pairs
  have key : ∃ ps : List (α × β), ps.map (·.1) = l ∧ ps.map (·.2) = m ∧ ∀ p ∈ ps, F p.1 p.2 := by
    clear hk
    induction h with
    | nil => exact ⟨[], rfl, rfl, fun p hp => by cases hp⟩
    | @cons a b l m r t ih =>
      obtain ⟨ps, e1, e2, e3⟩ := ih
      exact ⟨(a, b) :: ps, by rw [List.map_cons, e1], by rw [List.map_cons, e2], fun p hp => by
        rcases List.mem_cons.mp hp with rfl | hp
        · exact r
        · exact e3 p hp⟩
  obtain ⟨ps, e1, e2, e3⟩ := key
  subst e1 e2
  have s1 : (ps.map (·.1)).mergeSort (fun a b => le (ka a) (ka b)) = (ps.mergeSort fun p q => le (ka p.1) (ka q.1)).map (·.1) := (List.map_mergeSort (f := fun p : α × β => p.1) (r := fun p q => le (ka p.1) (ka q.1)) (s := fun a b => le (ka a) (ka b)) (l := ps) (fun a _ b _ => rfl)).symm
  have s2 : (ps.map (·.2)).mergeSort (fun a b => le (kb a) (kb b)) = (ps.mergeSort fun p q => le (ka p.1) (ka q.1)).map (·.2) := (List.map_mergeSort (f := fun p : α × β => p.2) (r := fun p q => le (ka p.1) (ka q.1)) (s := fun a b => le (kb a) (kb b)) (l := ps) (fun a ha b hb => by rw [hk _ _ (e3 a ha), hk _ _ (e3 b hb)])).symm
  rw [s1, s2]
  have e4 : ∀ p ∈ ps.mergeSort fun p q => le (ka p.1) (ka q.1), F p.1 p.2 := fun p hp => e3 p ((List.mergeSort_perm _ _).mem_iff.mp hp)
  generalize (ps.mergeSort fun p q => le (ka p.1) (ka q.1)) = qs at e4
  clear s1 s2 e3
  induction qs with
  | nil => exact .nil
  | cons q qs ih => exact .cons (e4 q List.mem_cons_self) (ih fun p hp => e4 p (List.mem_cons_of_mem _ hp))
theorem dataLe_snd {α : Type} : (PySem.W.dataLe false fun p : α × PyData => p.2) = fun a b => PySem.W.dataLe false (fun d : PyData => d) a.2 b.2 := rfl
theorem paired_reps : ∀ {l : List (DV × PyData)} {m : List (V × PyData)}, Paired (fun (p : DV × PyData) (z : V × PyData) => p.2 = z.2 ∧ XRep X ρ H p.1 z.1) l m → RepVs X.K ρ H (l.map (·.1)) (m.map (·.1))
  | _, _, .nil => .nil
  | _, _, .cons h t => .cons h.2 (paired_reps t)
theorem prim_sorted : PrimN X (rSorted X.K) oSorted := by
  intro W σ ρ H S ds vs Q hr rv q
  unfold oSorted at q
  split at q
  · split at q
    · rename_i l e1
      split at q
      · rename_i as e2
        split at q
        · rename_i hok
          obtain ⟨v, rfl, r⟩ := reps1 rv
          obtain ⟨p, ep, rfl⟩ := rep_refE r
          obtain ⟨us, hv, r1⟩ := lst_at hr e1 ep
          obtain ⟨z1, z2, z3, z4⟩ := zip3 e2 r1 (fun d a v => dp_of hr 12 d a v)
          refine ⟨p, us.zip as, rfl, by rw [z1]; exact .of hv, z3, by rw [z2]; exact hok, fun z hz => ?_⟩
          have sp := paired_perm (fun (p : DV × PyData) (z : V × PyData) => p.2 = z.2 ∧ XRep X ρ H p.1 z.1) (·.2) (·.2) (fun a b h => h.1) (PySem.W.dataLe false fun d : PyData => d) _ _ z4
          exact lst_made hr (paired_reps sp) q hz _ (rep_new hr)
        · exact q.elim
      · exact q.elim
    · exact q.elim
  · exact q.elim
end
end KN
set_option maxHeartbeats 200000
namespace KN
open PySem PySem.Spec PyProof.Rows L2
section
variable {X : Cx} {W : WX} {σ σ' : L2.St} {ρ ρ1 : List Addr} {H H1 : Hp} {pins : List (Addr × Obj)} {s : Shared}
/-! ### methods of built-in values -/
inductive BT where
  | list | tuple | dict | str
  deriving DecidableEq
def BT.nm : BT → String
  | .list => "list" | .tuple => "tuple" | .dict => "dict" | .str => "str"
def tyD (S : DS) : DV → Option BT
  | .tup _ => some .tuple
  | .str _ => some .str
  | .ref n => match S[n]? with
    | some (.lst _) => some .list
    | some (.dct _ _) => some .dict
    | _ => none
  | _ => none
theorem tyD_is {S : DS} {d : DV} {v : V} {u : Value} {T : BT} (I : Inv X pins σ H s) (hr : XHR X ρ H S) (r : XRep X ρ H d v) (ru : RelV v u) (e : tyD S d = some T) :
    s.TypeIs u T.nm ∧ ∀ a, u = .ref a → ∃ ob, s.heap.get? a = some ob ∧ ob.dict = none := by
  cases d <;> simp [tyD] at e
  case tup l =>
    subst e
    obtain ⟨a, vs, rfl, sv, _⟩ := rep_tupE r
    cases ru
    rcases sv with ⟨o, h, hd⟩ | ⟨o, its, n, hk, hc, hd, _⟩
    · obtain ⟨e1, _, its, _, o', e2, hc, _⟩ := (show ObjOk X.prog X.w H s.heap a (.frz o (.tup vs)) from I.hok a _ h)
      rw [e1] at e2
      cases e2
      refine ⟨⟨o, e1, hc⟩, fun b e => ?_⟩
      cases e
      exact ⟨o, e1, hd⟩
    · refine ⟨⟨o, I.kIn a o hk, hc⟩, fun b e => ?_⟩
      cases e
      exact ⟨o, I.kIn _ o hk, hd⟩
  case str x =>
    subst e
    cases rep_str r
    obtain ⟨t, rfl⟩ := ru
    exact ⟨typeIs_str s _ t, fun _ e => nomatch e⟩
  case ref n =>
    obtain ⟨a, ea, rfl⟩ := rep_refE r
    cases ru
    split at e
    · rename_i l e1
      cases e
      obtain ⟨vs, hv, _⟩ := lst_at hr e1 ea
      obtain ⟨its, _, pl, _⟩ := I.list (SqL.of hv)
      refine ⟨pl.isList.typeIs, fun a e => ?_⟩
      cases e
      obtain ⟨o, n, e, c, hd, _⟩ := pl
      exact ⟨o, e, hd⟩
    · rename_i lk kvs e1
      cases e
      obtain ⟨es, g, _⟩ := ent_of hr e1 ea
      obtain ⟨_, _, rs, ep, hm, _⟩ := ent_at I g
      refine ⟨hm.typeIs, fun a e => ?_⟩
      cases e
      obtain ⟨o, ho, hx, _⟩ := hm
      exact ⟨o, ho, hx.2.1⟩
    · cases e
/-- a method of a built-in type, by values -/
def PrimM (X : Cx) (r : V → List V → Hp → VK → Prop) (p : DV → List DV → DM DV) : Prop := ∀ (W : WX) (σ : L2.St) ρ H S x ds v vs Q, XHR X ρ H S → XRep X ρ H x v → RepVs X.K ρ H ds vs →
  (PostG X W σ ρ H (p x ds S) fun d _ ρ' H' => ∀ v, XRep X ρ' H' d v → Q v H') → r v vs H Q
structure BmX (X : Cx) (T : BT) (m : Str) (p : DV → List DV → DM DV) : Prop where
  ok : ∃ id r, PlainAttrs T.nm ∧ Slot T.nm m id ∧ typeOf (.builtin id) = pure (.type "method_descriptor") ∧ MtR X id r ∧ PrimM X r p
def mBm (T : BT) (p : DV → List DV → DM DV) (o : EM) (a : AM) : EM := fun Γ S => (o Γ S).bind fun x S1 => if tyD S1 x = some T then (a Γ S1).bind fun ds S2 => p x ds S2 else .bad
theorem re_bm {T : BT} {m : Str} {p : DV → List DV → DM DV} {o e : Expr} {es : List Expr} {mo : EM} {ma : AM} {apos cpos : Pos} (B : BmX X T m p) (ho : RE X W o mo) (ha : RA X W (e :: es) ma)
    (hbase : attributeBase o m X.env (eval o X.env) = eval o X.env)
    (hfew : ((backTo cpos (starEach (e :: es) X.env)).all (fun x => !x.1) && (backToKw cpos (keywordEach [] X.env)).all (fun x => x.1.isSome)
      && decide ((e :: es).length + ([] : List Keyword).length + (if ([] : List Keyword).isEmpty then 0 else 1) < 30)) = true)
    (hline : (apos.endLine == cpos.line) = true) (hs : starEach (e :: es) X.env = (false, eval e X.env) :: starEach es X.env) (hplain : (backTo cpos (starEach es X.env)).any (·.1) = false) :
    RE X W (.Call (.Attribute o m apos) (e :: es) [] cpos) (mBm T p mo ma) := by
  obtain ⟨id, r, pa, slot, hty, hm, hp⟩ := B.ok
  refine ⟨fun pins s σ H Q I ⟨ρ, S, Γ, hr, hg, q⟩ => ?_⟩
  refine wpAny_Call_method_late hbase hfew hline rfl (thn (ho.run pins s σ H (fun v H1 => ∃ ρ1 S1 x, XHR X ρ1 H1 S1 ∧ GRel X.K ρ1 H1 Γ σ ∧ XRep X ρ1 H1 x v ∧ PostG X W σ ρ1 H1 (if tyD S1 x = some T then (ma Γ S1).bind fun ds S2 => p x ds S2 else .bad) fun d _ ρ' H' => ∀ v, XRep X ρ' H' d v → Q v H') I
    ⟨ρ, S, Γ, hr, hg, q.bind.mono fun x S1 ρ1 H1 x1 hr1 ⟨_, q1⟩ v rv => ⟨ρ1, S1, x, hr1, hg.ext x1, rv, q1⟩⟩) fun u s1 ⟨v, H1, I1, ru, ρ1, S1, x, hr1, hg1, rv, q1⟩ => ?_)
  split at q1
  · rename_i hT
    obtain ⟨h1, h2⟩ := tyD_is I1 hr1 rv ru hT
    refine ⟨T.nm, id, pa, slot, hty, h1, h2, ?_⟩
    have hA := ha.run cpos pins s1 σ H1 (fun vs H2 => ∃ ρ2 S2 ds, XHR X ρ2 H2 S2 ∧ XRep X ρ2 H2 x v ∧ RepVs X.K ρ2 H2 ds vs ∧ PostG X W σ ρ2 H2 (p x ds S2) fun d _ ρ' H' => ∀ v, XRep X ρ' H' d v → Q v H') I1
      ⟨ρ1, S1, Γ, hr1, hg1, q1.bind.mono fun ds S2 ρ2 H2 x2 hr2 ⟨_, q2⟩ vs rvs => ⟨ρ2, S2, ds, hr2, RepV.ext x2.toV _ _ rv, rvs, q2⟩⟩
    rw [hs] at hA ⊢
    refine Calls.callWith_builtin (by show (false || (backTo cpos (starEach es X.env)).any (·.1)) = false; rw [hplain] <;> rfl) (Calls.evalArgs_plain ?_)
    exact thn hA fun us s2 ⟨vs, H2, I2, r2, ρ2, S2, ds, hr2, rv2, rvs, q2⟩ => hm pins s2 σ H2 v vs u us Q I2 ru r2 (hp W σ ρ2 H2 S2 x ds v vs Q hr2 rv2 rvs q2)
  · exact q1.elim
theorem re_bm0 {T : BT} {m : Str} {p : DV → List DV → DM DV} {o : Expr} {mo : EM} {apos cpos : Pos} (B : BmX X T m p) (ho : RE X W o mo) (hbase : attributeBase o m X.env (eval o X.env) = eval o X.env) (hline : (apos.endLine == cpos.line) = true) :
    RE X W (.Call (.Attribute o m apos) [] [] cpos) (mBm T p mo mNil) := by
  obtain ⟨id, r, pa, slot, hty, hm, hp⟩ := B.ok
  refine ⟨fun pins s σ H Q I ⟨ρ, S, Γ, hr, hg, q⟩ => ?_⟩
  refine wpAny_Call_method0_late hbase hline (thn (ho.run pins s σ H (fun v H1 => ∃ ρ1 S1 x, XHR X ρ1 H1 S1 ∧ GRel X.K ρ1 H1 Γ σ ∧ XRep X ρ1 H1 x v ∧ PostG X W σ ρ1 H1 (if tyD S1 x = some T then (mNil Γ S1).bind fun ds S2 => p x ds S2 else .bad) fun d _ ρ' H' => ∀ v, XRep X ρ' H' d v → Q v H') I
    ⟨ρ, S, Γ, hr, hg, q.bind.mono fun x S1 ρ1 H1 x1 hr1 ⟨_, q1⟩ v rv => ⟨ρ1, S1, x, hr1, hg.ext x1, rv, q1⟩⟩) fun u s1 ⟨v, H1, I1, ru, ρ1, S1, x, hr1, hg1, rv, q1⟩ => ?_)
  split at q1
  · rename_i hT
    obtain ⟨h1, h2⟩ := tyD_is I1 hr1 rv ru hT
    exact ⟨T.nm, id, pa, slot, hty, h1, h2, Calls.callWith_builtin rfl (PySem.evalArgs_none (hm pins s1 σ H1 v [] u [] Q I1 ru .nil (hp W σ ρ1 H1 S1 x [] v [] Q hr1 rv .nil q1)))⟩
  · exact q1.elim
/-! ### the methods -/
theorem reps0 {vs : List V} (r : RepVs X.K ρ H [] vs) : vs = [] := by rw [RepVs] at r; exact r
def oAppend : DV → List DV → DM DV
  | .ref n, [d] => fun S => match S[n]? with
    | some (.lst l) => if l.length < sizeLine then .ok .non (S.set n (.lst (l ++ [d]))) else .bad
    | _ => .bad
  | _, _ => fun _ => .bad
/-- a list's new content -/
theorem lst_put {n : Nat} {l l' : List DV} {S : DS} {a : Addr} {vs : List V} {Q : VK} {d : DV} {v : V} (hr : XHR X ρ H S) (e : S[n]? = some (.lst l)) (ea : ρ[n]? = some a) (ha : ∃ us, H a = some (.lst us)) (r : RepVs X.K ρ H l' vs) (rd : XRep X ρ H d v)
    (q : PostG X W σ ρ H (.ok d (S.set n (.lst l'))) fun d _ ρ' H' => ∀ v, XRep X ρ' H' d v → Q v H') : Q v (upd H a (.lst vs)) := by
  obtain ⟨us, ha⟩ := ha
  have x : Ext ρ H ρ (upd H a (.lst vs)) := Ext.write ha True.intro
  exact q ρ _ x (hr.write (o := .lst l') ea ha True.intro ⟨vs, upd_same, RepVs.ext x.toV _ _ r⟩) v (RepV.ext x.toV _ _ rd)
theorem prim_append : PrimM X rAppend oAppend := by
  intro W σ ρ H S x ds v vs Q hr rx rv q
  unfold oAppend at q
  split at q
  · split at q
    · rename_i n d _ l e
      split at q
      · rename_i hz
        obtain ⟨a, ea, rfl⟩ := rep_refE rx
        obtain ⟨us, ha, r1⟩ := lst_at hr e ea
        obtain ⟨y, rfl, ry⟩ := reps1 rv
        exact ⟨a, us, y, rfl, rfl, ha, by rw [← r1.len]; exact hz, lst_put hr e ea ⟨us, ha⟩ (r1.append (.cons ry .nil)) rep_n q⟩
      · exact q.elim
    · exact q.elim
  · exact q.elim
def oExtend : DV → List DV → DM DV
  | .ref n, [.ref m] => fun S => match S[n]?, S[m]? with
    | some (.lst l), some (.lst k) => if l.length + k.length ≤ sizeLine then .ok .non (S.set n (.lst (l ++ k))) else .bad
    | _, _ => .bad
  | _, _ => fun _ => .bad
theorem prim_extend : PrimM X rExtend oExtend := by
  intro W σ ρ H S x ds v vs Q hr rx rv q
  unfold oExtend at q
  split at q
  · split at q
    · rename_i n m _ _ l k e1 e2
      split at q
      · rename_i hz
        obtain ⟨a, ea, rfl⟩ := rep_refE rx
        obtain ⟨us, ha, r1⟩ := lst_at hr e1 ea
        obtain ⟨y, rfl, ry⟩ := reps1 rv
        obtain ⟨b, eb, rfl⟩ := rep_refE ry
        obtain ⟨zs, hb, r2⟩ := lst_at hr e2 eb
        exact ⟨a, b, us, zs, rfl, rfl, ha, hb, by rw [← r1.len, ← r2.len]; exact hz, lst_put hr e1 ea ⟨us, ha⟩ (r1.append r2) rep_n q⟩
      · exact q.elim
    · exact q.elim
  · exact q.elim
/-- l.pop(), l.pop(i), d.pop(k) -/
def oPopL : DV → List DV → DM DV
  | .ref n, [] => fun S => match S[n]? with
    | some (.lst l) => match l[l.length - 1]? with
      | some d => .ok d (S.set n (.lst l.dropLast))
      | none => .bad
    | _ => .bad
  | .ref n, [.int i] => fun S => match S[n]? with
    | some (.lst l) => if -(2 ^ 63) ≤ i ∧ i < 2 ^ 63 then match seqIndex? i l.length with
        | some k => match l[k]? with
          | some d => .ok d (S.set n (.lst (l.eraseIdx k)))
          | none => .bad
        | none => .bad
      else .bad
    | _ => .bad
  | _, _ => fun _ => .bad
def rPopL : V → List V → Hp → VK → Prop := fun x vs H Q => rPop x vs H Q ∨ rPopAt x vs H Q
theorem mt_popL : MtR X "list.pop" rPopL := MtR.or mt_pop mt_popAt
theorem prim_popL : PrimM X rPopL oPopL := by
  intro W σ ρ H S x ds v vs Q hr rx rv q
  unfold oPopL at q
  split at q
  · split at q
    · rename_i n _ l e
      split at q
      · rename_i d ed
        obtain ⟨a, ea, rfl⟩ := rep_refE rx
        obtain ⟨us, ha, r1⟩ := lst_at hr e ea
        have := reps0 rv
        subst this
        obtain ⟨y, ey, ry⟩ := r1.get ed
        exact .inl ⟨a, us, y, rfl, rfl, ha, by rw [← r1.len]; exact ey, lst_put hr e ea ⟨us, ha⟩ r1.dropLast ry q⟩
      · exact q.elim
    · exact q.elim
  · split at q
    · rename_i n i _ l e
      split at q
      · rename_i hi
        split at q
        · rename_i k ek
          split at q
          · rename_i d ed
            obtain ⟨a, ea, rfl⟩ := rep_refE rx
            obtain ⟨us, ha, r1⟩ := lst_at hr e ea
            obtain ⟨z, rfl, rz⟩ := reps1 rv
            cases rep_int rz
            obtain ⟨y, ey, ry⟩ := r1.get ed
            exact .inr ⟨a, us, i, k, y, rfl, rfl, ha, hi.1, hi.2, by rw [← r1.len]; exact ek, ey, lst_put hr e ea ⟨us, ha⟩ (r1.eraseIdx k) ry q⟩
          · exact q.elim
        · exact q.elim
      · exact q.elim
    · exact q.elim
  · exact q.elim
/-- l.index(x), t.index(x): the first place of it -/
def placeD (l : List DV) (x : DV) : Option Nat := match toNKs l, toNK x with
  | some ks, some k => if k ∈ ks ∧ k.depth ≤ 20 then some (ks.idxOf k) else none
  | _, _ => none
def oIndex (x : DV) (ds : List DV) : DM DV := fun S => match itemsOf S x, ds with
  | some l, [d] => match placeD l d with
    | some j => .ok (.int (j : Nat)) S
    | none => .bad
  | _, _ => .bad
def rIndexN (K : PySem.W.Frag) (T : BT) : V → List V → Hp → VK → Prop := fun x xs H Q => ∃ (p : Addr) (ys : List V) (ks : List NestedKey) (k : NestedKey) (y : V), x = .ref p ∧ xs = [y] ∧ ((T = .list ∧ SqL K H p ys) ∨ (T = .tuple ∧ SqT K H p ys)) ∧ NKvs K H ks ys ∧ NKv K H k y ∧ k.depth ≤ 20 ∧ k ∈ ks ∧ Q (.int (ks.idxOf k : Nat)) H
theorem mt_indexL (hu : X.A.units + 64 < cLine) : MtR X "list.index" (rIndexN X.K .list) := by
  intro pins s σ H x xs v us Q I rx rs h
  obtain ⟨p, ys, ks, k, y, rfl, rfl, hq, hks, hk, hd, hm, q⟩ := h
  rcases hq with ⟨_, hq⟩ | ⟨z, _⟩
  · cases rx
    obtain ⟨u, rfl, ru⟩ := vals1 rs
    obtain ⟨its, rv, pl, hz⟩ := I.list hq
    have hN := NKvs.is I ks ys its hks rv
    have hl := NestedAll.length _ _ hN
    exact SeqAt.call_list_index pl.isList (SeqAt.ItemsEq.nested hN (NKv.is I k y u hk ru) (by show X.A.units + 1 + k.depth < cLine; omega)) (by rw [← hl, ← rv.length]; exact hz) hm ⟨.int (ks.idxOf k : Nat), H, I.tok _, ⟨_, rfl⟩, q⟩
  · cases z
theorem mt_indexT (hu : X.A.units + 64 < cLine) : MtR X "tuple.index" (rIndexN X.K .tuple) := by
  intro pins s σ H x xs v us Q I rx rs h
  obtain ⟨p, ys, ks, k, y, rfl, rfl, hq, hks, hk, hd, hm, q⟩ := h
  rcases hq with ⟨z, _⟩ | ⟨_, hq⟩
  · cases z
  · cases rx
    obtain ⟨u, rfl, ru⟩ := vals1 rs
    obtain ⟨its, rv, pt, hz⟩ := I.tuple hq
    have hN := NKvs.is I ks ys its hks rv
    exact SeqAt.call_tuple_index pt (SeqAt.ItemsEq.nested hN (NKv.is I k y u hk ru) (by show X.A.units + 1 + k.depth < cLine; omega)) hm ⟨.int (ks.idxOf k : Nat), H, I.tok _, ⟨_, rfl⟩, q⟩
theorem prim_index (T : BT) : PrimM X (rIndexN X.K T) (fun x ds S => if tyD S x = some T then oIndex x ds S else .bad) := by
  intro W σ ρ H S x ds v vs Q hr rx rv q
  dsimp only at q
  split at q
  · rename_i hT
    unfold oIndex at q
    split at q
    · rename_i l d el
      split at q
      · rename_i j ej
        unfold placeD at ej
        split at ej
        · rename_i ks k e1 e2
          split at ej
          · rename_i hm
            cases ej
            obtain ⟨y, rfl, ry⟩ := reps1 rv
            cases x <;> simp [itemsOf] at el
            case tup l' =>
              subst el
              cases hT
              obtain ⟨a, us, rfl, sv, r1⟩ := rep_tupE rx
              exact ⟨a, us, ks, k, y, rfl, rfl, .inr ⟨rfl, sv.sqt⟩, nkvs_of _ _ _ e1 r1, nkv_of _ _ _ e2 ry, hm.2, hm.1, q.ok hr _ rep_i⟩
            case ref n =>
              split at el
              · rename_i l' el'
                cases el
                unfold tyD at hT
                dsimp only at hT
                rw [el'] at hT
                cases hT
                obtain ⟨a, ea, rfl⟩ := rep_refE rx
                obtain ⟨us, ha, r1⟩ := lst_at hr el' ea
                exact ⟨a, us, ks, k, y, rfl, rfl, .inl ⟨rfl, .of ha⟩, nkvs_of _ _ _ e1 r1, nkv_of _ _ _ e2 ry, hm.2, hm.1, q.ok hr _ rep_i⟩
              · cases el
          · cases ej
        · cases ej
      · exact q.elim
    · exact q.elim
  · exact q.elim
/-- s.split(sep), s.join(items) -/
def oSplit : DV → List DV → DM DV
  | .str a, [.str b] => fun S => if (b.length == 0) = false ∧ a.length + 2 ≤ sizeLine then newLst ((Txt.split a b).map .str) S else .bad
  | _, _ => fun _ => .bad
theorem prim_split : PrimM X (fun x xs H Q => ∃ a b, x = .str a ∧ xs = [.str b] ∧ (b.length == 0) = false ∧ a.length + 2 ≤ sizeLine ∧ rNewStrs (Txt.split a b) H Q) oSplit := by
  intro W σ ρ H S x ds v vs Q hr rx rv q
  unfold oSplit at q
  split at q
  · split at q
    · rename_i h
      cases rep_str rx
      obtain ⟨y, rfl, ry⟩ := reps1 rv
      cases rep_str ry
      exact ⟨_, _, rfl, rfl, h.1, h.2, fun p hp => lst_made hr (reps_strs _) q hp _ (rep_new hr)⟩
    · exact q.elim
  · exact q.elim
def oJoin : DV → List DV → DM DV
  | .str a, [d] => fun S => match itemsOf S d with
    | some l => match strsD l with
      | some ys => if (ys.map (·.length)).sum + ys.length * a.length ≤ 16777216 then .ok (.str (Txt.join a ys)) S else .bad
      | none => .bad
    | none => .bad
  | _, _ => fun _ => .bad
theorem prim_join : PrimM X (fun x xs H Q => ∃ a p, ∃ ys : List Str, x = .str a ∧ xs = [.ref p] ∧ (SqL X.K H p (ys.map V.str) ∨ SqT X.K H p (ys.map V.str)) ∧ (ys.map (·.length)).sum + ys.length * a.length ≤ 16777216 ∧ Q (.str (Txt.join a ys)) H) oJoin := by
  intro W σ ρ H S x ds v vs Q hr rx rv q
  unfold oJoin at q
  split at q
  · split at q
    · rename_i l el
      split at q
      · rename_i ys ey
        split at q
        · rename_i hz
          cases rep_str rx
          obtain ⟨y, rfl, ry⟩ := reps1 rv
          obtain ⟨p, us, rfl, sv, r1⟩ := itemsOf_rep hr el ry
          have e := strs_rep ey r1
          subst e
          exact ⟨_, p, ys, rfl, rfl, sv, hz, q.ok hr _ rep_s⟩
        · exact q.elim
      · exact q.elim
    · exact q.elim
  · exact q.elim
end
end KN
set_option maxHeartbeats 200000
namespace KN
open PySem PySem.Spec PyProof.Rows L2
section
variable {X : Cx} {W : WX} {σ σ' : L2.St} {ρ ρ1 : List Addr} {H H1 : Hp} {pins : List (Addr × Obj)} {s : Shared} {β : Type}
/-! ### dicts, written -/
def dPut (kvs : List (DV × DV)) (k v : DV) : List (DV × DV) := if (dFind kvs k).isSome then kvs.map fun p => if p.1 = k then (p.1, v) else p else kvs ++ [(k, v)]
def dDrop (kvs : List (DV × DV)) (k : DV) : List (DV × DV) := kvs.filter fun p => decide (p.1 ≠ k)
theorem keyR_iff {d e : DV} {k l : Key} (h : keyR d k) (g : keyR e l) : d = e ↔ k = l := by
  have := keyR_eq h g
  constructor
  · intro q
    exact of_decide_eq_true (by rw [← this]; exact decide_eq_true q)
  · intro q
    exact of_decide_eq_true (by rw [this]; exact decide_eq_true q)
theorem toNK_iff {d e : DV} {k l : NestedKey} (h : toNK d = some k) (g : toNK e = some l) : d = e ↔ k = l := by
  have := toNK_eq h g
  constructor
  · intro q
    exact of_decide_eq_true (by rw [← this]; exact decide_eq_true q)
  · intro q
    exact of_decide_eq_true (by rw [this]; exact decide_eq_true q)
theorem paired_map {α γ : Type} {F : α → γ → Prop} {f : α → α} {g : γ → γ} : ∀ {l : List α} {m : List γ}, Paired F l m → (∀ a b, F a b → F (f a) (g b)) → Paired F (l.map f) (m.map g)
  | _, _, .nil, _ => .nil
  | _, _, .cons h t, k => .cons (k _ _ h) (paired_map t k)
theorem paired_filter {α γ : Type} {F : α → γ → Prop} {f : α → Bool} {g : γ → Bool} : ∀ {l : List α} {m : List γ}, Paired F l m → (∀ a b, F a b → f a = g b) → Paired F (l.filter f) (m.filter g)
  | _, _, .nil, _ => .nil
  | _, _, @Paired.cons _ _ _ a b l m h t, k => by
    rw [List.filter_cons, List.filter_cons, k a b h]
    cases g b with
    | true => exact .cons h (paired_filter t k)
    | false => exact paired_filter t k
theorem paired_snoc {α γ : Type} {F : α → γ → Prop} {a : α} {b : γ} (h : F a b) : ∀ {l : List α} {m : List γ}, Paired F l m → Paired F (l ++ [a]) (m ++ [b])
  | _, _, .nil => .cons h .nil
  | _, _, .cons r t => .cons r (paired_snoc h t)
theorem RepKs.put {kvs : List (DV × DV)} {ks : List (Key × V)} {d x : DV} {k : Key} {v : V} (r : RepKs X.K ρ H kvs ks) (hk : keyR d k) (rv : XRep X ρ H x v) : RepKs X.K ρ H (dPut kvs d x) (putK ks k v) := by
  have hs : (dFind kvs d).isSome = (valV ks k).isSome := by
    obtain ⟨f1, f2⟩ := r.find hk
    cases e : dFind kvs d with
    | none => rw [f2 e] <;> rfl
    | some y => obtain ⟨z, hz, _⟩ := f1 y e; rw [hz]; rfl
  unfold dPut putK
  rw [valV_any, hs]
  split
  · refine paired_map r fun a b h => ?_
    by_cases q : a.1 = d
    · rw [if_pos q, if_pos ((keyR_iff h.1 hk).mp q)]; exact ⟨h.1, rv⟩
    · rw [if_neg q, if_neg fun z => q ((keyR_iff h.1 hk).mpr z)]; exact h
  · exact paired_snoc ⟨hk, rv⟩ r
theorem RepKs.drop {kvs : List (DV × DV)} {ks : List (Key × V)} {d : DV} {k : Key} (r : RepKs X.K ρ H kvs ks) (hk : keyR d k) : RepKs X.K ρ H (dDrop kvs d) (dropK ks k) :=
  paired_filter r fun a b h => by
    by_cases q : a.1 = d
    · have q2 := (keyR_iff h.1 hk).mp q
      simp [q, q2]
    · have q2 : b.1 ≠ k := fun z => q ((keyR_iff h.1 hk).mpr z)
      simp [q, q2]
theorem RepNs.put {kvs : List (DV × DV)} {ka : List (NestedKey × Addr × V)} {d x : DV} {k : NestedKey} {b : Addr} {v : V} (r : RepNs X.K ρ H kvs ka) (hk : toNK d = some k) (ht : isTup d = true) (rb : XRep X ρ H d (.ref b)) (rv : XRep X ρ H x v) : RepNs X.K ρ H (dPut kvs d x) (putN ka k b v) := by
  have hs : (dFind kvs d).isSome = (findN ka k).isSome := by
    obtain ⟨f1, f2⟩ := r.find hk
    cases e : dFind kvs d with
    | none => rw [f2 e] <;> rfl
    | some y => obtain ⟨c, z, hz, _⟩ := f1 y e; rw [hz]; rfl
  unfold dPut putN
  rw [hs]
  split
  · refine paired_map r fun a b h => ?_
    by_cases q : a.1 = d
    · rw [if_pos q, if_pos ((toNK_iff h.2.1 hk).mp q)]; exact ⟨h.1, h.2.1, h.2.2.1, rv⟩
    · rw [if_neg q, if_neg fun z => q ((toNK_iff h.2.1 hk).mpr z)]; exact h
  · exact paired_snoc ⟨ht, hk, rb, rv⟩ r
theorem RepNs.drop {kvs : List (DV × DV)} {ka : List (NestedKey × Addr × V)} {d : DV} {k : NestedKey} (r : RepNs X.K ρ H kvs ka) (hk : toNK d = some k) : RepNs X.K ρ H (dDrop kvs d) (dropN ka k) :=
  paired_filter r fun a b h => by
    by_cases q : a.1 = d
    · have q2 := (toNK_iff h.2.1 hk).mp q
      simp [q, q2]
    · have q2 : b.1 ≠ k := fun z => q ((toNK_iff h.2.1 hk).mpr z)
      simp [q, q2]
/-- the dict at n gets another content -/
theorem dct_write {n : Nat} {kvs kvs' : List (DV × DV)} {S : DS} {a : Addr} {u : HO} (hr : XHR X ρ H S) (e : S[n]? = some (.dct false kvs)) (ea : ρ[n]? = some a) (hu : ∃ z, H a = some z ∧ Wr z) (r : ∀ ρ' H', Ext ρ H ρ' H' → XRD X ρ' H' a kvs' u) :
    Ext ρ H ρ (upd H a u) ∧ XHR X ρ (upd H a u) (S.set n (.dct false kvs')) := by
  obtain ⟨z, hz, w⟩ := hu
  have x : Ext ρ H ρ (upd H a u) := Ext.write hz w
  exact ⟨x, hr.write (o := .dct false kvs') ea hz w ⟨u, upd_same, r _ _ x⟩⟩
theorem nPut_rep {a : Addr} {kvs : List (DV × DV)} {ka : List (NestedKey × Addr × V)} (r : RepNs X.K ρ H kvs ka) : ∃ u, (if ka = [] then HO.dK [] else dN X.prog X.w a ka) = u ∧ ∀ ρ' H', Ext ρ H ρ' H' → XRD X ρ' H' a kvs u := by
  refine ⟨_, rfl, fun ρ' H' x => ?_⟩
  by_cases q : ka = []
  · rw [if_pos q]
    subst q
    cases r
    exact .inl ⟨[], rfl, .nil⟩
  · rw [if_neg q]
    refine .inr ⟨?_, ka, rfl, RepNs.ext x r⟩
    intro e
    subst e
    cases r
    exact q rfl
theorem not_frz {n : Nat} {kvs : List (DV × DV)} {S : DS} {a : Addr} (hr : XHR X ρ H S) (e : S[n]? = some (.dct false kvs)) (ea : ρ[n]? = some a) : ∀ o u, H a ≠ some (.frz o u) := by
  obtain ⟨u, hu, rd⟩ := dct_view0 hr e ea
  obtain ⟨w, _⟩ := repD_wr rd
  intro o z h
  rw [hu] at h
  cases h
  exact w
/-- o[i] = v -/
def oSetIx (x y v : DV) : DM Unit := fun S => match x with
  | .ref n => match S[n]? with
    | some (.lst l) => match y with
      | .int i => match ixN l.length i with
        | some j => .ok () (S.set n (.lst (l.set j v)))
        | none => .bad
      | _ => .bad
    | some (.dct false kvs) => if (leafK kvs y || tupK kvs y) && decide (kvs.length < sizeLine) then .ok () (S.set n (.dct false (dPut kvs y v))) else .bad
    | _ => .bad
  | _ => .bad
theorem set_ix {x y d : DV} {xv yv dv : V} {ov iv u : Value} {S : DS} {k : Unit → DM β} {G : β → DS → List Addr → Hp → Prop} {Qs : Unit → Shared → Prop} (hu : X.A.units + 64 < cLine) (I : Inv X pins σ H s) (hr : XHR X ρ H S) (rx : XRep X ρ H x xv) (ry : XRep X ρ H y yv) (rd : XRep X ρ H d dv) (r1 : RelV xv ov) (r2 : RelV yv iv) (r3 : RelV dv u)
    (q : PostG X W σ ρ H ((oSetIx x y d S).bind k) G) (h : ∀ s' H' S', Inv X pins σ H' s' → Ext ρ H ρ H' → XHR X ρ H' S' → PostG X W σ ρ H' (k () S') G → Qs () s') : wpAny (model X.prog X.w) X.A (setItem ov iv u) Qs X.xe s := by
  unfold oSetIx at q
  split at q
  · rename_i n
    obtain ⟨a, ea, rfl⟩ := rep_refE rx
    cases r1
    split at q
    · rename_i l e
      split at q
      · rename_i i
        split at q
        · rename_i j hj
          obtain ⟨vs, hv, rl⟩ := lst_at hr e ea
          cases rep_int ry
          have x1 : Ext ρ H ρ (upd H a (.lst (vs.set j dv))) := Ext.write hv True.intro
          refine wpAny_mono (set_list pins s σ H (.ref a) (.int i) dv _ iv u (fun H' => H' = upd H a (.lst (vs.set j dv))) I rfl r2 r3 ⟨a, vs, i, j, rfl, rfl, hv, by rw [← rl.len]; exact hj, rfl⟩) (fun _ s' ⟨H', I', eH⟩ => ?_) fun _ _ z => z
          subst eH
          exact h s' _ _ I' x1 (hr.write (o := .lst (l.set j d)) ea hv True.intro ⟨_, upd_same, RepVs.ext x1.toV _ _ (RepVs.set rd j rl)⟩) (PostG.shift q x1)
        · exact q.elim
      · exact q.elim
    · rename_i kvs e
      split at q
      · rename_i hk
        rw [Bool.and_eq_true, Bool.or_eq_true, decide_eq_true_eq] at hk
        obtain ⟨hk, hz⟩ := hk
        obtain ⟨u0, hu0, rd0⟩ := dct_view0 hr e ea
        have hw := repD_wr rd0
        rcases hk with hk | hk
        · unfold leafK at hk
          rw [Bool.and_eq_true] at hk
          obtain ⟨ks, rfl, rk⟩ := repD_leaf rd0 hk.2
          have kr := keyR_to hk.1
          have ey := keyR_kV kr ry
          subst ey
          obtain ⟨x1, hr1⟩ := dct_write (kvs' := dPut kvs y d) (u := .dK (putK ks (toKey y) dv)) hr e ea ⟨_, hu0, hw.1⟩ fun ρ' H' x => .inl ⟨_, rfl, RepKs.ext x (rk.put kr rd)⟩
          exact d_setItem (by omega) I (DPut.k (k := toKey y) hu0 (by rw [← Paired.length rk]; exact hz)) r2 r3 fun s' I' => h s' _ _ I' x1 hr1 (PostG.shift q x1)
        · unfold tupK at hk
          rw [Bool.and_eq_true, Bool.and_eq_true] at hk
          obtain ⟨ka, nv, rn⟩ := repD_tup (.inl hu0) rd0 hk.2
          obtain ⟨kk, ek, kn⟩ := keyN_of hk.1.1 hk.1.2 ry
          obtain ⟨b, eb⟩ := kn.2.2
          subst eb
          obtain ⟨u1, eu, rr⟩ := nPut_rep (a := a) (rn.put ek hk.1.1 ry rd)
          obtain ⟨x1, hr1⟩ := dct_write (kvs' := dPut kvs y d) (u := u1) hr e ea ⟨_, hu0, hw.1⟩ rr
          refine n_setItem hu I nv (not_frz hr e ea) kn r2 r3 (by rw [← Paired.length rn]; exact hz) fun s' I' => ?_
          unfold nPut at I'
          rw [eu] at I'
          exact h s' _ _ I' x1 hr1 (PostG.shift q x1)
      · exact q.elim
    · exact q.elim
  · exact q.elim
/-- del o[i] -/
def oDelIx (x y : DV) : DM Unit := fun S => match x with
  | .ref n => match S[n]? with
    | some (.dct false kvs) => if (leafK kvs y || tupK kvs y) && (dFind kvs y).isSome then .ok () (S.set n (.dct false (dDrop kvs y))) else .bad
    | _ => .bad
  | _ => .bad
theorem del_ix {x y : DV} {xv yv : V} {ov iv : Value} {S : DS} {k : Unit → DM β} {G : β → DS → List Addr → Hp → Prop} {Qs : Unit → Shared → Prop} (hu : X.A.units + 64 < cLine) (I : Inv X pins σ H s) (hr : XHR X ρ H S) (rx : XRep X ρ H x xv) (ry : XRep X ρ H y yv) (r1 : RelV xv ov) (r2 : RelV yv iv)
    (q : PostG X W σ ρ H ((oDelIx x y S).bind k) G) (h : ∀ s' H' S', Inv X pins σ H' s' → Ext ρ H ρ H' → XHR X ρ H' S' → PostG X W σ ρ H' (k () S') G → Qs () s') : wpAny (model X.prog X.w) X.A (delItem ov iv) Qs X.xe s := by
  unfold oDelIx at q
  split at q
  · rename_i n
    obtain ⟨a, ea, rfl⟩ := rep_refE rx
    cases r1
    split at q
    · rename_i kvs e
      split at q
      · rename_i hk
        rw [Bool.and_eq_true, Bool.or_eq_true] at hk
        obtain ⟨hk, hf⟩ := hk
        obtain ⟨u0, hu0, rd0⟩ := dct_view0 hr e ea
        have hw := repD_wr rd0
        rcases hk with hk | hk
        · unfold leafK at hk
          rw [Bool.and_eq_true] at hk
          obtain ⟨ks, rfl, rk⟩ := repD_leaf rd0 hk.2
          have kr := keyR_to hk.1
          have ey := keyR_kV kr ry
          subst ey
          have hs : (valV ks (toKey y)).isSome = true := by
            obtain ⟨z, ez⟩ := Option.isSome_iff_exists.mp hf
            obtain ⟨v, hv, _⟩ := (rk.find kr).1 z ez
            rw [hv]; rfl
          obtain ⟨x1, hr1⟩ := dct_write (kvs' := dDrop kvs y) (u := .dK (dropK ks (toKey y))) hr e ea ⟨_, hu0, hw.1⟩ fun ρ' H' x => .inl ⟨_, rfl, RepKs.ext x (rk.drop kr)⟩
          exact d_delItem I hu0 r2 hs fun s' I' => h s' _ _ I' x1 hr1 (PostG.shift q x1)
        · unfold tupK at hk
          rw [Bool.and_eq_true, Bool.and_eq_true] at hk
          obtain ⟨ka, nv, rn⟩ := repD_tup (.inl hu0) rd0 hk.2
          obtain ⟨kk, ek, kn⟩ := keyN_of hk.1.1 hk.1.2 ry
          have hs : (findN ka kk).isSome = true := by
            obtain ⟨z, ez⟩ := Option.isSome_iff_exists.mp hf
            obtain ⟨c, v, hv, _⟩ := (rn.find ek).1 z ez
            rw [hv]; rfl
          obtain ⟨u1, eu, rr⟩ := nPut_rep (a := a) (rn.drop ek)
          obtain ⟨x1, hr1⟩ := dct_write (kvs' := dDrop kvs y) (u := u1) hr e ea ⟨_, hu0, hw.1⟩ rr
          refine n_delItem hu I nv (not_frz hr e ea) kn r2 hs fun s' I' => ?_
          unfold nPut at I'
          rw [eu] at I'
          exact h s' _ _ I' x1 hr1 (PostG.shift q x1)
      · exact q.elim
    · exact q.elim
  · exact q.elim
/-! ### statements that write -/
def mSetIx (v o i : EM) : SM := fun Γ S => (v Γ S).bind fun d S1 => (o Γ S1).bind fun x S2 => (i Γ S2).bind fun y S3 => (oSetIx x y d S3).bind fun _ S4 => .ok (.nx, Γ) S4
theorem rs_setIx {value o i : Expr} {mv mo mi : EM} {pos pos' : Pos} (hu : X.A.units + 64 < cLine) (hv : RE X W value mv) (ho : RE X W o mo) (hi : RE X W i mi) (hs : swapsWith value (some (.Subscript o i pos')) pos.line X.env = pure false)
    (hpl : ∀ a b c : Value, True) : RS X W (.Assign [.Subscript o i pos'] value pos) (mSetIx mv mo mi) := by
  refine ⟨fun pins s σ H D I ⟨ρ, S, Γ, hr, hg, q⟩ => ?_⟩
  refine wpAny_Assign_Subscript (thn (hv.run pins s σ H (fun dv H1 => ∃ ρ1 S1 d, XHR X ρ1 H1 S1 ∧ GRel X.K ρ1 H1 Γ σ ∧ XRep X ρ1 H1 d dv ∧ PostG X W σ ρ1 H1 ((mo Γ S1).bind fun x S2 => (mi Γ S2).bind fun y S3 => (oSetIx x y d S3).bind fun _ S4 => .ok ((.nx, Γ) : DF × DG) S4) fun r _ ρ' H' => EndG X D r ρ' H') I
    ⟨ρ, S, Γ, hr, hg, (PostG.bind q).mono fun d S1 ρ1 H1 x1 hr1 ⟨_, q1⟩ v rv => ⟨ρ1, S1, d, hr1, hg.ext x1, rv, q1⟩⟩) fun u s1 ⟨dv, H1, I1, ru, ρ1, S1, d, hr1, hg1, rd, q1⟩ => ?_) hs
  refine thn (ho.run pins s1 σ H1 (fun xv H2 => ∃ ρ2 S2 x, XHR X ρ2 H2 S2 ∧ GRel X.K ρ2 H2 Γ σ ∧ XRep X ρ2 H2 d dv ∧ XRep X ρ2 H2 x xv ∧ PostG X W σ ρ2 H2 ((mi Γ S2).bind fun y S3 => (oSetIx x y d S3).bind fun _ S4 => .ok ((.nx, Γ) : DF × DG) S4) fun r _ ρ' H' => EndG X D r ρ' H') I1
    ⟨ρ1, S1, Γ, hr1, hg1, q1.bind.mono fun x S2 ρ2 H2 x2 hr2 ⟨_, q2⟩ v rv => ⟨ρ2, S2, x, hr2, hg1.ext x2, RepV.ext x2.toV _ _ rd, rv, q2⟩⟩) fun ov s2 ⟨xv, H2, I2, rx, ρ2, S2, x, hr2, hg2, rd2, rxv, q2⟩ => ?_
  refine thn (hi.run pins s2 σ H2 (fun yv H3 => ∃ ρ3 S3 y, XHR X ρ3 H3 S3 ∧ GRel X.K ρ3 H3 Γ σ ∧ XRep X ρ3 H3 d dv ∧ XRep X ρ3 H3 x xv ∧ XRep X ρ3 H3 y yv ∧ PostG X W σ ρ3 H3 ((oSetIx x y d S3).bind fun _ S4 => .ok ((.nx, Γ) : DF × DG) S4) fun r _ ρ' H' => EndG X D r ρ' H') I2
    ⟨ρ2, S2, Γ, hr2, hg2, q2.bind.mono fun y S3 ρ3 H3 x3 hr3 ⟨_, q3⟩ v rv => ⟨ρ3, S3, y, hr3, hg2.ext x3, RepV.ext x3.toV _ _ rd2, RepV.ext x3.toV _ _ rxv, rv, q3⟩⟩) fun iv s3 ⟨yv, H3, I3, ry, ρ3, S3, y, hr3, hg3, rd3, rx3, ry3, q3⟩ => ?_
  exact set_ix hu I3 hr3 rx3 ry3 rd3 rx ry ru q3 fun s' H' S' I' x' hr' q' => ⟨σ, H', I', (q'.ok hr') σ (hg3.ext x')⟩
def mDelIx (o i : EM) : SM := fun Γ S => (o Γ S).bind fun x S2 => (i Γ S2).bind fun y S3 => (oDelIx x y S3).bind fun _ S4 => .ok (.nx, Γ) S4
theorem rs_delIx {o i : Expr} {mo mi : EM} {pos pos' : Pos} (hu : X.A.units + 64 < cLine) (ho : RE X W o mo) (hi : RE X W i mi) : RS X W (.Delete [.Subscript o i pos'] pos) (mDelIx mo mi) := by
  refine ⟨fun pins s σ H D I ⟨ρ, S, Γ, hr, hg, q⟩ => ?_⟩
  refine wpAny_Delete (wpAny_deleteEach_cons (wpAny_delete_Subscript (thn (ho.run pins s σ H (fun xv H2 => ∃ ρ2 S2 x, XHR X ρ2 H2 S2 ∧ GRel X.K ρ2 H2 Γ σ ∧ XRep X ρ2 H2 x xv ∧ PostG X W σ ρ2 H2 ((mi Γ S2).bind fun y S3 => (oDelIx x y S3).bind fun _ S4 => .ok ((.nx, Γ) : DF × DG) S4) fun r _ ρ' H' => EndG X D r ρ' H') I
    ⟨ρ, S, Γ, hr, hg, (PostG.bind q).mono fun x S2 ρ2 H2 x2 hr2 ⟨_, q2⟩ v rv => ⟨ρ2, S2, x, hr2, hg.ext x2, rv, q2⟩⟩) fun ov s2 ⟨xv, H2, I2, rx, ρ2, S2, x, hr2, hg2, rxv, q2⟩ => ?_)))
  refine thn (hi.run pins s2 σ H2 (fun yv H3 => ∃ ρ3 S3 y, XHR X ρ3 H3 S3 ∧ GRel X.K ρ3 H3 Γ σ ∧ XRep X ρ3 H3 x xv ∧ XRep X ρ3 H3 y yv ∧ PostG X W σ ρ3 H3 ((oDelIx x y S3).bind fun _ S4 => .ok ((.nx, Γ) : DF × DG) S4) fun r _ ρ' H' => EndG X D r ρ' H') I2
    ⟨ρ2, S2, Γ, hr2, hg2, q2.bind.mono fun y S3 ρ3 H3 x3 hr3 ⟨_, q3⟩ v rv => ⟨ρ3, S3, y, hr3, hg2.ext x3, RepV.ext x3.toV _ _ rxv, rv, q3⟩⟩) fun iv s3 ⟨yv, H3, I3, ry, ρ3, S3, y, hr3, hg3, rx3, ry3, q3⟩ => ?_
  exact del_ix hu I3 hr3 rx3 ry3 rx ry q3 fun s' H' S' I' x' hr' q' => wpAny_deleteEach_nil ⟨σ, H', I', (q'.ok hr') σ (hg3.ext x')⟩
end
end KN
set_option maxHeartbeats 200000
namespace KN
open PySem PySem.Spec PyProof.Rows L2
section
variable {X : Cx} {W : WX} {σ σ' : L2.St} {ρ ρ1 : List Addr} {H H1 : Hp} {pins : List (Addr × Obj)} {s : Shared}
variable {mt pr : Str → Str → Option DFn} {fl : Str → Str → Bool}
/-! ### attributes written -/
theorem putD_len (f : Str) (d : DV) : ∀ fs : List (Str × DV), (putD f d fs).length ≤ fs.length + 1
  | [] => Nat.le_refl _
  | (g, x) :: r => by
    unfold putD
    split
    · simp
    · have := putD_len f d r
      simp only [List.length_cons]
      omega
/-- x.f = d -/
def oSetF (fl : Str → Str → Bool) (f : Str) (x d : DV) : DM Unit := fun S => match x with
  | .ref n => match S[n]? with
    | some (.ins c fs) => if fl c f = true ∧ fs.length < 1000 then .ok () (S.set n (.ins c (putD f d fs))) else .bad
    | _ => .bad
  | _ => .bad
def mFld (fl : Str → Str → Bool) (f : Str) (v o : EM) : SM := fun Γ S => (v Γ S).bind fun d S1 => (o Γ S1).bind fun x S2 => (oSetF fl f x d S2).bind fun _ S3 => .ok (.nx, Γ) S3
theorem setF_of {f : Str} {x d : DV} {xv dv : V} {S : DS} {β : Type} {k : Unit → DM β} {G : β → DS → List Addr → Hp → Prop} (T : ClsX X mt pr fl) (hr : XHR X ρ H S) (rx : XRep X ρ H x xv) (rd : XRep X ρ H d dv) (q : PostG X W σ ρ H ((oSetF fl f x d S).bind k) G) :
    ∃ a C dx us S', xv = .ref a ∧ H a = some (.ins C dx us) ∧ Cls X.K C ∧ NoAttr X.K C f ∧ us.length < 1000 ∧ Ext ρ H ρ (upd H a (.ins C dx (putF f dv us))) ∧ XHR X ρ (upd H a (.ins C dx (putF f dv us))) S' ∧ PostG X W σ ρ (upd H a (.ins C dx (putF f dv us))) (k () S') G := by
  unfold oSetF at q
  split at q
  · rename_i n
    split at q
    · rename_i c fs e
      split at q
      · rename_i hk
        obtain ⟨a, ea, rfl⟩ := rep_refE rx
        obtain ⟨C, dx, us, hC, hH, rf⟩ := ins_at hr e ea
        obtain ⟨hc, hn⟩ := T.fl c f C hk.1 hC
        have x1 : Ext ρ H ρ (upd H a (.ins C dx (putF f dv us))) := Ext.write hH True.intro
        exact ⟨a, C, dx, us, _, rfl, hH, hc, hn, by rw [← rf.len]; exact hk.2, x1, hr.write (o := .ins c (putD f d fs)) ea hH True.intro ⟨C, dx, _, hC, upd_same, RepFs.ext x1.toV (rf.put f rd)⟩, PostG.shift q x1⟩
      · exact q.elim
    · exact q.elim
  · exact q.elim
theorem rs_fld {o value : Expr} {f : Str} {mo mv : EM} {pos pos' : Pos} (T : ClsX X mt pr fl) (hv : RE X W value mv) (ho : RE X W o mo) (hs : swapsWith value (some (.Attribute o f pos')) pos.line X.env = pure false) : RS X W (.Assign [.Attribute o f pos'] value pos) (mFld fl f mv mo) :=
  ps_imp (ps_fld ho hv hs) fun D σ H ⟨ρ, S, Γ, hr, hg, q⟩ => by
    refine ⟨ρ, S, Γ, hr, hg, (PostG.bind q).mono fun d S1 ρ1 H1 x1 hr1 ⟨_, q1⟩ dv rd => ?_⟩
    refine ⟨ρ1, S1, Γ, hr1, hg.ext x1, q1.bind.mono fun x S2 ρ2 H2 x2 hr2 ⟨_, q2⟩ xv rx => ?_⟩
    obtain ⟨a, C, dx, us, S3, e1, e2, e3, e4, e5, x3, hr3, q3⟩ := setF_of T hr2 rx (RepV.ext x2.toV _ _ rd) q2
    exact ⟨a, C, dx, us, e1, e2, e3, e4, e5, (q3.ok hr3) σ (hg.ext ((x1.trans x2).trans x3))⟩
/-! ### += -/
def oInc : DV → DV → DM DV
  | .int a, .int b => fun S => .ok (.int (a + b)) S
  | _, _ => fun _ => .bad
def mAug (i : Nat) (m : EM) : SM := fun Γ S => match Γ[i]? with
  | some (some d) => (m Γ S).bind fun e S1 => (oInc d e S1).bind fun z S2 => .ok (.nx, Γ.set i (some z)) S2
  | _ => .bad
theorem rs_aug {i : Nat} {x : Str} {e : Expr} {m : EM} {pos pos' : Pos} (hN : X.N.Nodup) (hi : X.N[i]? = some x) (hx : Loc X.env.scope x) (he : RE X W e m) (hf : X.fn x = true ∨ X.env.scope.names.lookup x = some .local) : RS X W (.AugAssign (.Name x pos') .Add e pos) (mAug i m) :=
  ps_imp (ps_aug hN hi hx he ip_add hf) fun D σ H ⟨ρ, S, Γ, hr, hg, q⟩ => by
    unfold mAug at q
    split at q
    · rename_i d ed
      obtain ⟨v, ev, rv⟩ := hg.at_ i d ed
      refine ⟨v, ev, ρ, S, Γ, hr, hg, (PostG.bind q).mono fun d2 S1 ρ1 H1 x1 hr1 ⟨_, q1⟩ v2 rv2 => ?_⟩
      unfold oInc at q1
      split at q1
      · cases rep_int rv
        cases rep_int rv2
        exact ⟨_, _, rfl, rfl, ((PostG.ok q1) hr1) _ ((hg.ext x1).set i rep_i)⟩
      · exact q1.elim
    · exact q.elim
def mAugF (fl : Str → Str → Bool) (f : Str) (o m : EM) : SM := fun Γ S => (o Γ S).bind fun x S1 => match x with
  | .ref n => match S1[n]? with
    | some (.ins c fs) => if fl c f = true then match fs.lookup f with
        | some d => (m Γ S1).bind fun e S2 => (oInc d e S2).bind fun z S3 => match S3[n]? with
          | some (.ins c' fs') => if c' = c ∧ fs'.length < 1000 then .ok (.nx, Γ) (S3.set n (.ins c' (putD f z fs'))) else .bad
          | _ => .bad
        | none => .bad
      else .bad
    | _ => .bad
  | _ => .bad
theorem rs_augF {o e : Expr} {f : Str} {mo m : EM} {pos pos' : Pos} (T : ClsX X mt pr fl) (ho : RE X W o mo) (he : RE X W e m) : RS X W (.AugAssign (.Attribute o f pos') .Add e pos) (mAugF fl f mo m) :=
  ps_imp (ps_fldaug ho he in_add) fun D σ H ⟨ρ, S, Γ, hr, hg, q⟩ => by
    refine ⟨ρ, S, Γ, hr, hg, (PostG.bind q).mono fun x S1 ρ1 H1 x1 hr1 ⟨_, q1⟩ xv rx => ?_⟩
    split at q1
    · rename_i n
      split at q1
      · rename_i c fs e1
        split at q1
        · rename_i hfl
          split at q1
          · rename_i d ed
            obtain ⟨a, ea, rfl⟩ := rep_refE rx
            obtain ⟨C, dx, us, hC, hH, rf⟩ := ins_at hr1 e1 ea
            obtain ⟨hc, hn⟩ := T.fl c f C hfl hC
            obtain ⟨v, lv, rv⟩ := (rf.lookup f).1 d ed
            refine ⟨a, C, dx, us, v, rfl, hH, hc, hn, lv, ρ1, S1, Γ, hr1, hg.ext x1, q1.bind.mono fun d2 S2 ρ2 H2 x2 hr2 ⟨_, q2⟩ v2 rv2 => ?_⟩
            have rv' := RepV.ext x2.toV _ _ rv
            unfold oInc at q2
            split at q2
            · rename_i ia ib _
              cases rep_int rv'
              cases rep_int rv2
              refine ⟨_, _, rfl, rfl, ?_⟩
              rw [bind_ok] at q2
              split at q2
              · rename_i c' fs' e2
                split at q2
                · rename_i hk
                  obtain ⟨rfl, hl⟩ := hk
                  have ea2 := x2.pre _ a ea
                  obtain ⟨C2, dx2, us2, hC2, hH2, rf2⟩ := ins_at hr2 e2 ea2
                  rw [hC] at hC2
                  cases hC2
                  have x3 : Ext ρ2 H2 ρ2 (upd H2 a (.ins C dx2 (putF f (.int (ia + ib)) us2))) := Ext.write hH2 True.intro
                  refine ⟨dx2, us2, hH2, by rw [← rf2.len]; exact hl, ?_⟩
                  exact q2 ρ2 _ x3 (hr2.write (o := .ins c' (putD f _ fs')) ea2 hH2 True.intro ⟨C, dx2, _, hC, upd_same, RepFs.ext x3.toV (rf2.put f rep_i)⟩) σ (hg.ext ((x1.trans x2).trans x3))
                · exact q2.elim
              · exact q2.elim
            · exact q2.elim
          · exact q1.elim
        · exact q1.elim
      · exact q1.elim
    · exact q1.elim
/-! ### isinstance -/
inductive TyN where
  | bi (n : String) | own (c : Str)
/-- the type of a value -/
def tyOf (S : DS) : DV → Option TyN
  | .non => some (.bi "NoneType")
  | .bl _ => some (.bi "bool")
  | .int _ => some (.bi "int")
  | .str _ => some (.bi "str")
  | .tup _ => some (.bi "tuple")
  | .ref n => match S[n]? with
    | some (.lst _) => some (.bi "list")
    | some (.dct _ _) => some (.bi "dict")
    | some (.ins c _) => some (.own c)
    | none => none
  | .scr _ => none
/-- what a class must have for its instances to be asked -/
structure InsC (K : PySem.W.Frag) (C : Addr) : Prop where
  cl : Cls K C
  ha : PySem.W.findIn K (.ref C) "__class__" = some (some (.builtin "object.__class__"))
  hn : PySem.W.specialIn K (.builtin "object.__class__") "__get__" = some (some (.builtin "getset_descriptor.__get__"))
  tk : PySem.W.takesIn K (.builtin "object.__class__") = some true
  hm : PySem.W.mroIn K C (.type "object") = some true
def TyN.val (mg : Str → Option Value) : TyN → Option Value
  | .bi n => some (.type n)
  | .own c => mg c
/-- the answers of isinstance: io t c -/
structure IsiX (X : Cx) (io : TyN → TyN → Option Bool) (ic : Str → Bool) : Prop where
  ins : ∀ c C, ic c = true → X.mg c = some (.ref C) → InsC X.K C
  ok : ∀ t c b tv cv, io t c = some b → t.val X.mg = some tv → c.val X.mg = some cv → PySem.W.kitOne X.K tv cv = some b
theorem kit_at {S : DS} {d : DV} {v : V} {u : Value} {t : TyN} {io : TyN → TyN → Option Bool} {ic : Str → Bool} (J : IsiX X io ic) (I : Inv X pins σ H s) (hr : XHR X ρ H S) (r : XRep X ρ H d v) (ru : RelV v u) (e : tyOf S d = some t) (hi : ∀ c, t = .own c → ic c = true) :
    ∃ tv, t.val X.mg = some tv ∧ ∃ P : Heap → Prop, PySem.W.KitX X.K u tv P ∧ P s.heap ∧ u ≠ .builtin "__main__.__loader__#opaque" := by
  cases d <;> simp [tyOf] at e
  case non => subst e; cases rep_non r; cases ru; exact ⟨_, rfl, _, PySem.W.kitx_none, True.intro, fun z => nomatch z⟩
  case bl b => subst e; cases rep_bl r; cases ru; exact ⟨_, rfl, _, PySem.W.kitx_bool, True.intro, fun z => nomatch z⟩
  case int b => subst e; cases rep_int r; obtain ⟨_, rfl⟩ := ru; exact ⟨_, rfl, _, PySem.W.kitx_int, True.intro, fun z => nomatch z⟩
  case str b => subst e; cases rep_str r; obtain ⟨_, rfl⟩ := ru; exact ⟨_, rfl, _, PySem.W.kitx_str, True.intro, fun z => nomatch z⟩
  case tup l =>
    subst e
    obtain ⟨a, vs, rfl, sv, _⟩ := rep_tupE r
    cases ru
    obtain ⟨its, _, ⟨o, h1, h2, _⟩, _⟩ := I.tuple sv.sqt
    exact ⟨_, rfl, _, PySem.W.kitx_tuple, ⟨o, h1, h2⟩, fun z => nomatch z⟩
  case ref n =>
    obtain ⟨a, ea, rfl⟩ := rep_refE r
    cases ru
    split at e
    · rename_i l e1
      cases e
      obtain ⟨vs, hv, _⟩ := lst_at hr e1 ea
      obtain ⟨its, _, pl, _⟩ := I.list (SqL.of hv)
      obtain ⟨o, n, h1, h2, _⟩ := pl
      exact ⟨_, rfl, _, PySem.W.kitx_list, ⟨o, h1, h2⟩, fun z => nomatch z⟩
    · rename_i lk kvs e1
      cases e
      obtain ⟨es, g, _⟩ := ent_of hr e1 ea
      obtain ⟨_, _, rs, ep, ⟨o, ho, hx, _⟩, _⟩ := ent_at I g
      exact ⟨_, rfl, _, PySem.W.kitx_dict, ⟨o, ho, hx.1⟩, fun z => nomatch z⟩
    · rename_i c fs e1
      cases e
      obtain ⟨C, dx, us, hC, hH, _⟩ := ins_at hr e1 ea
      have ii := J.ins c C (hi c rfl) hC
      obtain ⟨mA, O, _⟩ := ins_get I.hok hH
      obtain ⟨od, O', _⟩ := O.look
      exact ⟨_, hC, _, PySem.W.kitx_own (ii.cl.get _) ii.cl.hd ii.ha ii.hn ii.tk ii.hm, O', fun z => nomatch z⟩
    · cases e
/-- isinstance(e, C) -/
def oIsi (io : TyN → TyN → Option Bool) (ic : Str → Bool) (c : TyN) (d : DV) : DM DV := fun S => match tyOf S d with
  | some t => match (match t with | .own k => ic k | _ => true), io t c with
    | true, some b => .ok (.bl b) S
    | _, _ => .bad
  | none => .bad
def mIsi (io : TyN → TyN → Option Bool) (ic : Str → Bool) (c : TyN) (m : EM) : EM := fun Γ S => (m Γ S).bind fun d S1 => oIsi io ic c d S1
theorem isi_of {c : TyN} {cv : Value} {d : DV} {v : V} {u : Value} {S : DS} {Q : VK} {io : TyN → TyN → Option Bool} {ic : Str → Bool} (J : IsiX X io ic) (hcv : c.val X.mg = some cv) (I : Inv X pins σ H s) (hr : XHR X ρ H S) (r : XRep X ρ H d v) (ru : RelV v u)
    (q : PostG X W σ ρ H (oIsi io ic c d S) fun d _ ρ' H' => ∀ v, XRep X ρ' H' d v → Q v H') : wpAny (model X.prog X.w) X.A (call (.builtin "isinstance") [u, cv]) (EP X pins σ Q) X.xe s := by
  unfold oIsi at q
  split at q
  · rename_i t et
    split at q
    · rename_i b h1 h2
      obtain ⟨tv, ht, P, Z, p, hx⟩ := kit_at J I hr r ru et (fun k ek => by subst ek; exact h1)
      exact PySem.W.kia_one Z I.kIn p (J.ok t c b tv cv h2 ht hcv) hx fun tk => ⟨.bl b, H, I.tok tk, rfl, q.ok hr _ rep_b⟩
    · exact q.elim
  · exact q.elim
theorem re_isi {e ce : Expr} {c : TyN} {vc : V} {cv : Value} {m : EM} {np pos : Pos} {io : TyN → TyN → Option Bool} {ic : Str → Bool} (J : IsiX X io ic) (hcv : c.val X.mg = some cv) (hg : Gl X "isinstance") (hm : X.mg "isinstance" = none) (he : RE X W e m) (hce : PE X ce (tC vc)) (hr : ∀ u, RelV vc u → u = cv)
    (hs1 : starEach [e, ce] X.env = (false, eval e X.env) :: starEach [ce] X.env) (hs2 : starEach [ce] X.env = (false, eval ce X.env) :: starEach [] X.env) :
    RE X W (.Call (.Name "isinstance" np) [e, ce] [] pos) (mIsi io ic c m) := by
  refine ⟨fun pins s σ H Q I ⟨ρ, S, Γ, hr0, hg0, q⟩ => ?_⟩
  refine wpAny_Call_Name_kw (ld_blt I hg hm (by rfl) ?_ (by decide) (by decide))
  have ha : PA X [e, ce] (tCons (tO X W m) (tCons (tC vc) tNil)) := pa_cons he (pa_cons hce pa_nil hs2) hs1
  refine PyProof.Rows.callWith_builtin1 (thn (ha.run pos pins s σ H (fun vs H1 => ∃ ρ1 S1 d v, vs = [v, vc] ∧ XHR X ρ1 H1 S1 ∧ XRep X ρ1 H1 d v ∧ PostG X W σ ρ1 H1 (oIsi io ic c d S1) fun d _ ρ' H' => ∀ v, XRep X ρ' H' d v → Q v H') I ?_) fun us s1 ⟨vs, H1, I1, r1, ρ1, S1, d, v, ev, hr1, rv, q1⟩ => ?_) hs1 (by rw [hs2] <;> rfl)
  · exact ⟨ρ, S, Γ, hr0, hg0, q.bind.mono fun d S1 ρ1 H1 x1 hr1 ⟨_, q1⟩ v rv => ⟨ρ1, S1, d, v, rfl, hr1, rv, q1⟩⟩
  · subst ev
    obtain ⟨u, w', rfl, ru, rw'⟩ := vals2 r1
    have := hr w' rw'
    subst this
    exact isi_of J hcv I1 hr1 rv ru q1
/-! ### attributes as targets; a, b = x, y -/
def gFld (fl : Str → Str → Bool) (f : Str) (o : EM) : GM := fun d Γ S => (o Γ S).bind fun x S1 => (oSetF fl f x d S1).bind fun _ S2 => .ok Γ S2
theorem rg_fld {o : Expr} {f : Str} {mo : EM} {pos' : Pos} {ixs : List Nat} (T : ClsX X mt pr fl) (ho : RE X W o mo) : RG X W (.Attribute o f pos') ixs (gFld fl f mo) := by
  refine ⟨fun pins s σ H v u Q I r ⟨ρ, S, Γ, d, hr, hg, rv, q⟩ => ?_⟩
  rw [arm_assign_Attribute]
  refine wpAny_bind (wpAny_holding (thn (ho.run pins s σ H (fun x H2 => ∃ (a C dx : Addr) (us : List (Str × V)), x = .ref a ∧ H2 a = some (.ins C dx us) ∧ Cls X.K C ∧ NoAttr X.K C f ∧ us.length < 1000 ∧ Q σ (upd H2 a (.ins C dx (putF f v us)))) I
    ⟨ρ, S, Γ, hr, hg, (PostG.bind q).mono fun x S1 ρ1 H1 x1 hr1 ⟨_, q1⟩ xv rx => ?_⟩) fun ov s1 ⟨x, H1, I1, rx, a, C, dx, us, ex, ea, c, n, l, q1⟩ => ?_))
  · obtain ⟨a, C, dx, us, S3, e1, e2, e3, e4, e5, x3, hr3, q3⟩ := setF_of T hr1 rx (RepV.ext x1.toV _ _ rv) q1
    exact ⟨a, C, dx, us, e1, e2, e3, e4, e5, (q3.ok hr3) σ (hg.ext (x1.trans x3)) rfl⟩
  · subst ex
    obtain rfl : ov = Value.ref a := rx
    refine wpAny_bind (wpAny_standAt (wpAny_bind (wpAny_holding (setattr_ok I1 ea c n l r fun s3 I3 => ?_))))
    exact wpAny_release ⟨σ, _, I3, q1⟩
def parK (i j : Nat) (ds : List DV) (Γ : DG) : DM (DF × DG) := fun S => match ds with
  | [d, e] => .ok (.nx, (Γ.set i (some d)).set j (some e)) S
  | _ => .bad
def mPar (i j : Nat) (m : AM) : SM := fun Γ S => (m Γ S).bind fun ds S1 => parK i j ds Γ S1
theorem rs_par {i j : Nat} {x y : Str} {a b : Expr} {m : AM} {px py pt pos : Pos} {kt k2 pt2} (hc : X.calm = true) (hN : X.N.Nodup) (hi : X.N[i]? = some x) (hj : X.N[j]? = some y) (hij : i ≠ j)
    (hx : X.env.scope.names.lookup x = some .local) (hy : X.env.scope.names.lookup y = some .local) (ha : RA X W [a, b] m)
    (hw : swappedStores [.Tuple [.Name x px, .Name y py] kt pt] (.Tuple [a, b] k2 pt2) X.env = pure (some [x, y]))
    (hs : swapsWithSole [.Tuple [.Name x px, .Name y py] kt pt] (.Tuple [a, b] k2 pt2) pos.line X.env = pure false) :
    RS X W (.Assign [.Tuple [.Name x px, .Name y py] kt pt] (.Tuple [a, b] k2 pt2) pos) (mPar i j m) :=
  ps_imp (ps_par hc hN hi hj hij hx hy ha hw hs) fun D σ H ⟨ρ, S, Γ, hr, hg, q⟩ => by
    refine ⟨ρ, S, Γ, hr, hg, (PostG.bind q).mono fun ds S1 ρ1 H1 x1 hr1 ⟨_, q1⟩ vs rv => ?_⟩
    unfold parK at q1
    split at q1
    · rename_i d e
      rw [RepVs] at rv
      obtain ⟨v, r, rfl, rd, rv⟩ := rv
      rw [RepVs] at rv
      obtain ⟨w, r, rfl, re, rv⟩ := rv
      rw [RepVs] at rv
      subst rv
      exact ⟨v, w, rfl, (q1.ok hr1) _ (((hg.ext x1).set i rd).set j re)⟩
    · exact q1.elim
end
end KN
set_option maxHeartbeats 200000
namespace KN
open PySem PySem.Spec PyProof.Rows L2
/-! ### an exception's __init__ that says super().__init__('..') first -/
theorem zip_get {x : Str} {u : Value} : ∀ {ps : List Str} {us : List Value} {i : Nat}, ps.Nodup → ps.length = us.length → ps[i]? = some x → us[i]? = some u → (ps.zip us).reverse.lookup x = some u := by
  have key : ∀ {ps : List Str} {us : List Value}, ps.Nodup → ∀ y v, (y, v) ∈ ps.zip us → (ps.zip us).reverse.lookup y = some v := by
    intro ps
    induction ps with
    | nil => intro us _ y v h; simp at h
    | cons p ps ih =>
      intro us nd y v h
      cases us with
      | nil => simp at h
      | cons w us =>
        rw [List.zip_cons_cons, List.reverse_cons, List.lookup_append]
        obtain ⟨n1, n2⟩ := List.nodup_cons.mp nd
        rw [List.zip_cons_cons] at h
        rcases List.mem_cons.mp h with e | h
        · cases e
          have : (ps.zip us).reverse.lookup p = none := by
            rw [List.lookup_eq_none_iff]
            intro q hq
            rw [List.mem_reverse] at hq
            obtain ⟨a, b⟩ := q
            have := (List.of_mem_zip hq).1
            show (p != a) = true
            simp only [bne_iff_ne, ne_eq]
            rintro rfl
            exact n1 this
          rw [this]
          simp [List.lookup]
        · rw [ih n2 y v h]
          rfl
  intro ps us i nd hl h1 h2
  refine key nd x u ?_
  obtain ⟨a1, e1⟩ := List.getElem?_eq_some_iff.mp h1
  obtain ⟨a2, e2⟩ := List.getElem?_eq_some_iff.mp h2
  rw [List.mem_iff_getElem]
  exact ⟨i, by rw [List.length_zip]; omega, by rw [List.getElem_zip, e1, e2]⟩
/-- the context of such an __init__ -/
def cxEi (CX : CXT) (P : Program) (w : World) (K : PySem.W.Frag) (mg : Str → Option Value) (base : Heap) (N : List Str) (qual : Str) (scope : Scope) (f cc : Addr) (cd : Value) (A : Around) (outer : List Env) (s : Shared) (H : Hp) (E : XK) : Cx where
  prog := P
  w := w
  K := K
  mg := mg
  base := base
  A := A.deeper (PySem.W.ksEnv qual scope s.heap.objs.size f cd cc)
  N := N
  s_0 := s
  H_0 := H
  env := PySem.W.ksEnv qual scope s.heap.objs.size f cd cc
  outer := outer
  stack := PySem.W.ksEnv qual scope s.heap.objs.size f cd cc :: outer
  ex := []
  calm := true
  fn := fun _ => false
  pn := []
  xe := fun e s' => wpAny (model P w) (A.deeper (PySem.W.ksEnv qual scope s.heap.objs.size f cd cc)) (leaving (PySem.W.ksEnv qual scope s.heap.objs.size f cd cc) e) (fun _ s'' => CX outer H s E e s'') (fun e' s'' => CX outer H s E e' s'') s'
structure EiScope (ps : List Str) (sc : Scope) : Prop where
  kind : sc.kind = .function
  co : sc.isCoroutine = false
  gen : sc.isGenerator = false
  nd : ps.Nodup
  par : ∀ x ∈ ps, sc.names.lookup x = some .local
  nocell : ∀ x ∈ sc.names, x.2 ≠ .cell
  sup : sc.names.lookup ("super" : Str) = some .globalImplicit
  cls : sc.names.lookup ("__class__" : Str) = some .free
  only : ∀ x ∈ sc.names, x.2 = .free → x.1 = ("__class__" : Str)
/-- what is known of the class -/
structure EiC (P : Program) (K : PySem.W.Frag) (C : Addr) (cdv : Value) (cc : Addr) : Prop where
  oex : OexC K C
  cda : ∃ (cda : Addr) (ccl : Value) (cdd : Option Addr) (vs : Array Value) (ccs : Array (Option Value)) (file : Str) (tf : Tok), cdv = .ref cda ∧ K.lookup cda = some ⟨ccl, cdd, .fields vs, ccs⟩ ∧ vs[2]? = some (.str file tf) ∧ ((P.main.file : Str) == file) = true
  cell : ∃ cl cld csl, K.lookup cc = some ⟨cl, cld, .cell (some (.ref C)), csl⟩
  self : PySem.W.mroIn K C (.ref C) = some true
  sup : PySem.W.ks_superIn K C C "__init__" = some (some (.builtin "ValueError.__init__"))
  sub : PySem.W.subIn K (.ref C) (.type "ValueError") = some true
  opq : PySem.W.nsIn K cStatics "thirdparty.any" = some none
  top : (P.main.scope.names.lookup ("super" : Str)).isSome = false
theorem inv_ei {CX : CXT} {P : Program} {w : World} {K : PySem.W.Frag} {mg : Str → Option Value} {base : Heap} {ps : List Str} {qual : Str} {scope : Scope} {f cc : Addr} {cd : Value} {A : Around} {outer : List Env} {s : Shared} {H : Hp} {E : XK} {us : List Value} {vs : List V} {h1 : Heap} {tk : Nat} {cl : Value} {cld : Option Addr} {cv : Option Value} {csl : Array (Option Value)}
    (S : EiScope ps scope) (hd : A.handled = none) (e0 : Env0 P w K mg base A outer s H) (hl : vs.length = ps.length) (r : Vals vs us) (hcell : K.lookup cc = some ⟨cl, cld, .cell cv, csl⟩)
    (hns : h1.Ns s.heap.objs.size (fun x => (ps.zip us).reverse.lookup x)) (hk : ∀ b o, s.heap.get? b = some o → h1.get? b = some o) :
    Inv (cxEi CX P w K mg base ps qual scope f cc cd A outer s H E) [] (L2.start ps vs) H { s with heap := h1, toks := tk } := by
  have noA : ∀ b : Addr, b ∉ (cxEi CX P w K mg base ps qual scope f cc cd A outer s H E).ex := fun b z => absurd (show b ∈ ([] : List Addr) from z) (by simp)
  have cells : ∀ y c, (cxEi CX P w K mg base ps qual scope f cc cd A outer s H E).env.cells.lookup y = some c → y = ("__class__" : Str) ∧ c = cc := fun y c h => by
    have h : List.lookup y [(("__class__" : Str), cc)] = some c := h
    rw [List.lookup_cons] at h
    cases z : y == ("__class__" : Str) with
    | true =>
      rw [z] at h
      exact ⟨by simpa using z, (Option.some.inj h).symm⟩
    | false =>
      rw [z] at h
      cases h
  have cb := e0.mod.kin _ _ hcell
  refine ⟨⟨e0.mod, S.kind, rfl, rfl, Nat.le_refl _, fun y z c h1 h2 => ?_, fun y hy => ?_, fun y c z _ => absurd (show false = true from z) Bool.false_ne_true, fun _ => hd, Around.frames_deeper e0.frames, .inr ⟨rfl, rfl⟩, fun b z => absurd z (noA b), e0.bs, e0.bsz, fun b _ _ => noA b, fun b z => absurd z (noA b), e0.funs, e0.frf⟩,
    rfl, e0.bare, Un.kept hk, ⟨_, hns, fun i y v h1 h2 h3 => ?_⟩, fun y c h => ?_, e0.hok.fresh (Nat.le_refl _), fun y c h => ?_, fun p hp => absurd (show p ∈ ([] : List (Addr × Obj)) from hp) (by simp), e0.hok.kept hk, ?_⟩
  · rw [(cells y c h1).1, (cells z c h2).1]
  · have hy : scope.names.lookup y = some .cell ∨ scope.names.lookup y = some .free := hy
    rcases hy with hy | hy
    · exact absurd rfl (S.nocell _ (PySem.mem_of_lookup hy))
    · have e := S.only _ (PySem.mem_of_lookup hy) rfl
      refine ⟨cc, ?_⟩
      show List.lookup y [(("__class__" : Str), cc)] = some cc
      rw [show y = ("__class__" : Str) from e]
      simp [List.lookup]
  · have hi : i < vs.length := by
      unfold L2.start at h2
      by_cases hi : i < vs.length
      · exact hi
      · rw [List.getElem?_append_right (by simpa using hi)] at h2
        rw [List.getElem?_replicate] at h2
        split at h2 <;> cases h2
    have ha : vs[i]? = some v := by
      unfold L2.start at h2
      rw [List.getElem?_append_left (by simpa using hi), List.getElem?_map] at h2
      cases e : vs[i]? with
      | none => rw [e] at h2; cases h2
      | some a => rw [e] at h2; cases h2; rfl
    obtain ⟨u, hu, rv⟩ := r.get ha
    exact ⟨u, rv, .inl ⟨S.par y (List.mem_of_getElem? h1), zip_get S.nd (hl.symm.trans r.length) h1 hu⟩⟩
  · rw [(cells y c h).2]
    exact ⟨cv, _, hk _ _ (e0.bs _ _ cb).1, rfl⟩
  · rw [(cells y c h).2]
    exact (e0.bs _ _ cb).2
  · unfold L2.start
    show _ = ps.length
    rw [List.length_append, List.length_map, List.length_replicate]
    omega
theorem refsVE_ne2 {K : PySem.W.Frag} {C : Addr} (T : OexC K C) : ∃ cd, PySem.W.clsIn K C = some cd := by
  obtain ⟨nm, q, N, bs, bm, sn, sub, ab, col, dd, k0, k1, k2, k3, k5, hC, hbm⟩ := T.cls
  exact ⟨_, by unfold PySem.W.clsIn; rw [hC] <;> rfl⟩
section
variable {X : Cx} {pins : List (Addr × Obj)} {σ : L2.St} {H : Hp} {s : Shared}
/-- the wrapper called: nothing of it is told -/
theorem ei_call {a C u : Addr} {us : List Value} {A : Around} {E : Value → Shared → Prop} {Q : Value → Shared → Prop} (T : OexC X.K C) (I : Inv X pins σ H s) (e : H a = some (exo a C none)) (hu : s.heap.get? u = some (PySem.W.kxs_mw "ValueError.__init__" a)) (hl : us.length ≤ sizeLine)
    (h : ∀ s', Inv X pins σ H s' → Q .none s') : wpAny (model X.prog X.w) A (call (.ref u) us) Q E s := by
  obtain ⟨nm, q, N, bs, bm, sn, sub, ab, col, dd, k0, k1, k2, k3, k5, hC, hbm⟩ := T.cls
  obtain ⟨t1, ho⟩ := exo_at I.hok e
  obtain ⟨hp, g, d, t, os⟩ := s
  have FB := F.excBase_ValueError
  refine wpAny_call (codeAny_of_tree ?_)
  show wpAny _ A.in1 (callAny (.ref u) ⟨us, []⟩) _ _ _
  simp only [callAny]
  refine wpAny_bind (wpAny_load hu ?_)
  simp only [PySem.W.kxs_mw, show (Value.type "method-wrapper" == Value.type "method" || Value.type "method-wrapper" == Value.type "builtin_function_or_method" || Value.type "method-wrapper" == Value.type "method-wrapper") = true by decide, if_true]
  refine PySem.W.KFB.if_so (by decide) ?_
  refine wpAny_bind (PySem.W.check_bound_init FB.toExcCallFacts (I.kIn _ _ hC) ho rfl ?_)
  refine wpAny_bind (wpAny_pure (wpAny_pure ?_))
  refine ⟨plainId_quiet FB.init.plain _, codeAny_builtin FB.initEntry ?_⟩
  refine PySem.W.exc_init_tree (cls := .ref C) (t0 := t1) (dv := none) (c2 := .none) (c3 := .none) (b4 := .bool false) ho hl fun h' k hx _ => ?_
  have J := I.write (t' := t) (x := a) (e := a) (o := exo a C none) (by rw [e]; exact True.intro) (.inl rfl) k ⟨_, hx⟩ (exo_ok hx)
  have eu : upd H a (exo a C none) = H := by
    funext b
    by_cases hb : b = a
    · rw [hb, upd_same, e]
    · rw [upd_ne hb]
  rw [eu] at J
  exact h _ J
end
section
variable {CX : CXT} {P : Program} {w : World} {K : PySem.W.Frag} {mg : Str → Option Value} {base : Heap} {ps : List Str} {name qual : Str} {scope : Scope} {f cc : Addr} {cd : Value} {A : Around} {outer : List Env} {s : Shared} {H H1 : Hp} {E : XK} {σ : L2.St} {s1 : Shared}
  {params : Arguments} {body rest : List Stmt} {dV kV doc pm ct oc : Value} {an od : Option Addr} {osl : Array (Option Value)} {self nm : Str} {C a : Addr} {p0 p1 p2 apos pos pos' : Pos} {j : Nat} {ar : Arg}
theorem ei_super {pl : Sem Bool} {Q : Flow → Shared → Prop} {E1 : Value → Shared → Prop} (hev : eval (.Call (.Attribute (.Call (.Name "super" p0) [] [] p1) "__init__" apos) [.Constant (.str nm) j p2] [] pos) (PySem.W.ksEnv qual scope s.heap.objs.size f cd cc) = (do
      let ov ← attributeBase (.Call (.Name "super" p0) [] [] p1) "__init__" (PySem.W.ksEnv qual scope s.heap.objs.size f cd cc) (eval (.Call (.Name "super" p0) [] [] p1) (PySem.W.ksEnv qual scope s.heap.objs.size f cd cc))
      standAt apos.atName
      let (fx, first) ← holding [ov] (getMethod ov "__init__" pl)
      callWith pos fx first (backTo pos (starEach [.Constant (.str nm) j p2] (PySem.W.ksEnv qual scope s.heap.objs.size f cd cc))) []))
    (S : EiScope ps scope) (T : EiC P K C cd cc) (lk : K.lookup f = some ⟨oc, od, .func (PySem.W.ksFn name qual params body scope dV kV doc pm an cd ct cc), osl⟩)
    (hpar : (params.posonlyargs ++ params.args).head? = some ar) (h0 : ps[0]? = some ar.arg) (hmg : mg "super" = none)
    (I : Inv (cxEi CX P w K mg base ps qual scope f cc cd A outer s H E) [] σ H1 s1) (hσ : σ[0]? = some (some (.ref a))) (ha : H1 a = some (exo a C none))
    (h : ∀ s2, Inv (cxEi CX P w K mg base ps qual scope f cc cd A outer s H E) [] σ H1 s2 → Q .next s2) :
    _root_.PySem.wpAt (model P w) (A.deeper (PySem.W.ksEnv qual scope s.heap.objs.size f cd cc)) (.func body (PySem.W.ksEnv qual scope s.heap.objs.size f cd cc))
      (exec (.Expr (.Call (.Attribute (.Call (.Name "super" p0) [] [] p1) "__init__" apos) [.Constant (.str nm) j p2] [] pos) pos') (PySem.W.ksEnv qual scope s.heap.objs.size f cd cc)) Q E1 s1 := by
  obtain ⟨cda, ccl, cdd, fv, ccs, file, tf, rfl, hcode, hvs, hfile⟩ := T.cda
  obtain ⟨cl, cld, csl, hcell⟩ := T.cell
  obtain ⟨cdD, hD⟩ := refsVE_ne2 T.oex
  have X : K.In s1.heap := I.kIn
  obtain ⟨m, hns, hlk⟩ := id I.loc
  obtain ⟨u, ru, look⟩ := hlk 0 ar.arg _ h0 hσ (.inl (S.par _ (List.mem_of_getElem? h0)))
  obtain rfl : u = Value.ref a := ru
  have hka : scope.names.lookup ar.arg = some .local := S.par _ (List.mem_of_getElem? h0)
  have hm : m ar.arg = some (.ref a) := by
    rcases look with ⟨_, e⟩ | ⟨e, _⟩
    · exact e
    · have e' : scope.names.lookup ar.arg = some .cell ∨ scope.names.lookup ar.arg = some .free := e
      rcases e' with e | e <;> rw [hka] at e <;> cases e
  obtain ⟨mb, hmb, hbt⟩ := I.ok.mod.blt
  have hglob := I.ok.mod.glob
  have bk := I.bk
  obtain ⟨oD, hD1, hD2⟩ : ∃ oD, s1.heap.get? C = some oD ∧ oD.data = .cls cdD := by
    unfold PySem.W.clsIn at hD
    split at hD
    · rename_i c d cd' sl ho
      cases hD
      exact ⟨_, X _ _ ho, rfl⟩
    · cases hD
  obtain ⟨t1, hx⟩ := exo_at I.hok ha
  obtain ⟨hh, g, d, t, os⟩ := s1
  have IA : PySem.W.InstAt hh a { cls := .ref C, dict := none, data := .fields #[.ref t1, .none, .none, .none, .bool false, .none] } C none := ⟨hx, rfl, rfl, True.intro⟩
  refine ks_wpAt_Expr_any (ks_wpAt_MethodCall ?_ hev) I.quiet (by rfl)
  refine ks_wpAt_super_base (env := PySem.W.ksEnv qual scope s.heap.objs.size f (.ref cda) cc) S.sup S.cls (by decide) rfl (X _ _ lk) rfl hpar rfl (X _ _ hcode) rfl hvs hfile T.top ?_
  refine PySem.W.ks_loadName_global S.kind S.sup (PySem.Calls.loadGlobal_builtin (env := PySem.W.ksEnv qual scope s.heap.objs.size f (.ref cda) cc) (hglob.keeps bk) hmg (hmb.keeps bk) ((hbt _ (by decide +kernel)).trans PyProof.Rows.Boot.«super») ⟨rfl, ?_⟩)
  refine wpAny_loadName_free S.kind S.cls rfl ⟨_, X _ _ hcell, rfl⟩ ?_
  refine wpAny_loadName_local S.kind hka hns hm ?_
  refine ks_wpAny_isType_cls hD1 hD2 ⟨rfl, ?_⟩
  refine ks_wpAny_call_super hD1 hD2 IA.at_ IA.cls (fun c e => by cases e) (PySem.W.looks_mroIn X T.self) (fun h2 e k => ?_)
  have I2 := I.kept (t' := t) k
  have X2 : K.In h2 := I2.kIn
  have hxC : a ≠ C := PySem.W.ks_ne X IA hD
  have hsup := T.sup
  unfold PySem.W.ks_superIn at hsup
  rw [hD] at hsup
  have hI : PySem.W.Looks (model P w) h2 (isInstance (.ref a) (.type "ValueError")) true := (PySem.W.InstAt.type (I := (⟨k _ _ hx, rfl, rfl, True.intro⟩ : PySem.W.InstAt h2 a { cls := .ref C, dict := none, data := .fields #[.ref t1, .none, .none, .none, .bool false, .none] } C none))).andThen (PySem.W.looks_subIn X2 T.sub)
  refine PySem.W.kxs_getMethod PySem.W.kxs_ValueError e (PySem.W.looks_opaque X2 T.opq) (l₀ := cdD.mro) (fun A Q E s k q => wpAny_bind ((PySem.W.looks_clsIn X2 hD) A _ E s k (wpAny_pure q))) rfl X2 hsup hI hxC (by decide) ?_
  have pk : ∀ b o, h2.get? b = some o → (h2.push (PySem.W.kxs_mw "ValueError.__init__" a)).get? b = some o := fun b o e => Heap.get?_push_of_some _ e
  have I3 := I2.kept (t' := t + 1) pk
  have hu : (h2.push (PySem.W.kxs_mw "ValueError.__init__" a)).get? h2.objs.size = some (PySem.W.kxs_mw "ValueError.__init__" a) := Heap.get?_push_at rfl rfl
  have I4 := I3.pins_of (pins' := [(h2.objs.size, PySem.W.kxs_mw "ValueError.__init__" a)]) fun p hp => by
    obtain rfl : p = _ := List.mem_singleton.mp hp
    exact ⟨hu, I2.hok.fresh (Nat.le_refl _), fun z => absurd I2.lt (by rw [← z]; exact Nat.lt_irrefl _), I2.nofs (Nat.le_refl _), fun v z => by cases z⟩
  refine PySem.W.kxs_callWith (i := "ValueError.__init__") (x := a) rfl ?_
  have hargs : PA (cxEi CX P w K mg base ps qual scope f cc (.ref cda) A outer s H E) [.Constant (.str nm) j p2] (tCons (tC (.str nm)) tNil) := pa_cons pe_str pa_nil
  refine PySem.Calls.evalArgs_plain (thn (hargs.run pos [(h2.objs.size, PySem.W.kxs_mw "ValueError.__init__" a)] _ σ H1 (fun vs H2 => vs = [V.str nm] ∧ H1 = H2) I4 ⟨rfl, rfl⟩) fun us s5 ⟨vs, H2, I5, r5, ev, eH⟩ => ?_)
  subst ev
  subst eH
  have hu5 := (I5.pin _ (List.mem_append_right _ (List.mem_singleton.mpr rfl))).1
  refine ⟨hu5, ?_⟩
  have I6 := I5.pins_of (pins' := []) (fun p hp => nomatch hp)
  refine ei_call T.oex I6 ha hu5 (by have e := Paired.length r5; show ([] ++ us).length ≤ sizeLine; rw [List.nil_append, ← e]; show 1 ≤ sizeLine; rw [sizeLine_eq]; omega) fun s6 I7 => h _ I7
end
/-- such an __init__ as a def -/
def spEi (K : PySem.W.Frag) (C : Addr) (ps : List Str) (t : TS) : Sp := fun vs H Q E => vs.length = ps.length ∧ ∃ a ws, vs = .ref a :: ws ∧ H a = some (exo a C none) ∧ t { nx := fun _ H' => Q .non H', rt := Q } (L2.start ps vs) H
theorem ei_fn {CX : CXT} {P : Program} {w : World} {K : PySem.W.Frag} {mg : Str → Option Value} {base : Heap} {ps : List Str} {name qual : Str} {scope : Scope} {f cc : Addr} {cd : Value} {params : Arguments} {body rest : List Stmt} {dV kV doc pm ct oc : Value} {an od : Option Addr} {osl : Array (Option Value)} {nm : Str} {C : Addr}
    {p0 p1 p2 apos pos pos' : Pos} {j : Nat} {ar : Arg} {k : Nat} {t : TS} {pl : Sem Bool}
    (hbody : body = .Expr (.Call (.Attribute (.Call (.Name "super" p0) [] [] p1) "__init__" apos) [.Constant (.str nm) j p2] [] pos) pos' :: rest)
    (hev : ∀ L, eval (.Call (.Attribute (.Call (.Name "super" p0) [] [] p1) "__init__" apos) [.Constant (.str nm) j p2] [] pos) (PySem.W.ksEnv qual scope L f cd cc) = (do
      let ov ← attributeBase (.Call (.Name "super" p0) [] [] p1) "__init__" (PySem.W.ksEnv qual scope L f cd cc) (eval (.Call (.Name "super" p0) [] [] p1) (PySem.W.ksEnv qual scope L f cd cc))
      standAt apos.atName
      let (fx, first) ← holding [ov] (getMethod ov "__init__" pl)
      callWith pos fx first (backTo pos (starEach [.Constant (.str nm) j p2] (PySem.W.ksEnv qual scope L f cd cc))) []))
    (S : EiScope ps scope) (T : EiC P K C cd cc) (lk : K.lookup f = some ⟨oc, od, .func (PySem.W.ksFn name qual params body scope dV kV doc pm an cd ct cc), osl⟩) (hcd : PySem.W.codeIn K cd qual = true)
    (hpar : (params.posonlyargs ++ params.args).head? = some ar) (h0 : ps[0]? = some ar.arg) (hmg : mg "super" = none)
    (hrest : ∀ (A : Around) (outer : List Env) (s : Shared) (H : Hp) (E : XK), PSs (cxEi CX P w K mg base ps qual scope f cc cd A outer s H E) rest t) :
    FnOk P w K mg base CX (k + 1) f (PySem.W.ksFn name qual params body scope dV kV doc pm an cd ct cc) ps (spEi K C ps t) := by
  subst hbody
  refine ⟨fun vs H Q E h => h.1, fun A outer s H args us vs Q E hr e0 hb r hsp => ?_⟩
  obtain ⟨hl, a, ws, rfl, ha, ht⟩ := hsp
  have KX : K.In s.heap := e0.mod.kin.keeps fun b o e => (e0.bs b o e).1
  have lim : s.heap.NoLimit := e0.mod.nolimit.keeps fun b o e => (e0.bs b o e).1
  obtain ⟨cl, cld, csl, hcell⟩ := T.cell
  refine ks_codeAny_call_defAt (fd := PySem.W.ksFn name qual params _ scope dV kV doc pm an cd ct cc) hr.depth (KX _ _ lk) rfl lim (PySem.W.codeRec_of KX hcd) rfl hb S.nocell (fun y hy => S.par _ (List.of_mem_zip (show (y.1, y.2) ∈ ps.zip us from hy)).1) (fun h1 hns hk => ?_) S.co S.gen S.kind
  have I : Inv (cxEi CX P w K mg base ps qual scope f cc cd A outer s H E) [] (L2.start ps (.ref a :: ws)) H { s with heap := h1, toks := s.toks + (ps.zip us).length } := inv_ei S hr.hd e0 hl r hcell hns hk
  refine ks_wpAt_execs_cons (ei_super (hev _) S T lk hpar h0 hmg I rfl ha fun s2 I2 => wpAt_of_wpAny ?_)
  refine wpAny_mono ((hrest A outer s H E).run [] s2 _ H _ I2 ht) (fun fl s' hs => ?_) fun e s' hs => hs
  have fin : ∀ {σ' : L2.St} {H' : Hp} {v : V} {u : Value}, Inv (cxEi CX P w K mg base ps qual scope f cc cd A outer s H E) [] σ' H' s' → RelV v u → Q v H' → CE outer P w H s Q u s' :=
    fun {σ' H' v u} J rv q => ⟨v, H', J.os, J.bare, J.base, J.hok, rv, q⟩
  cases fl with
  | ret u =>
    obtain ⟨v, σ', H', J, rv, q⟩ := hs
    exact fin J rv q
  | next =>
    obtain ⟨σ', H', J, q⟩ := hs
    exact fin (v := V.non) (u := Value.none) J rfl q
  | brk =>
    obtain ⟨_, _, _, q⟩ := hs
    exact False.elim q
  | cont =>
    obtain ⟨_, _, _, q⟩ := hs
    exact False.elim q
end KN
set_option maxHeartbeats 200000
namespace KN
open PySem PySem.Spec PyProof.Rows L2
/-! ### raise of an own exception with fields -/
def mRaise (c : Str) (fl : List Str) (m : AM) : SM := fun Γ S => (m Γ S).bind fun ds S1 => if ds.length = fl.length then .exc c ((fl.zip ds).reverse) S1 else .bad
/-- the reading of: self.f1 = p1; self.f2 = p2; .. -/
def tFlds (K : PySem.W.Frag) : Nat → List Str → TS
  | _, [] => tNext
  | i, [f] => tOst K f (tVar 0) (tVar i)
  | i, f :: r => tSeq (tOst K f (tVar 0) (tVar i)) (tFlds K (i + 1) r)
structure ExcX (X : Cx) (c : Str) (C : Addr) (fl : List Str) : Prop where
  mg : X.mg c = some (.ref C)
  oex : OexC X.K C
  fno : ∀ f ∈ fl, PySem.W.findIn X.K (.ref C) f = some none
  run : ∃ fI fd ps k, PySem.W.findIn X.K (.ref C) "__init__" = some (some (.ref fI)) ∧ PySem.W.typeIn X.K (.ref fI) = some (.type "function") ∧ ps.length = fl.length + 1 ∧ Binds X.K fd ps [] ∧ Room (k + 1) X.A ∧
    FnOk X.prog X.w X.K X.mg X.base (L2.CX X.prog X.w) k fI fd ps (spEi X.K C ps (tFlds X.K 1 fl))
section
variable {X : Cx} {W : WX} {σ : L2.St} {ρ ρ1 : List Addr} {H H1 : Hp} {pins : List (Addr × Obj)} {s : Shared}
theorem len_two {α : Type} {l : List α} (h : l.length = 2) : ∃ a b, l = [a, b] := by
  match l, h with
  | [a, b], _ => exact ⟨a, b, rfl⟩
theorem exc_end {C a dx : Addr} {fs : List (Str × V)} (ha : H a = none) (hd : H dx = none) (ne : dx ≠ a) {us : List (Str × V)} :
    upd (del (upd (upd (upd H a (exo a C none)) dx (exd dx fs)) a (exo a C (some dx))) a) dx (.xd us) = upd H dx (.xd us) := by
  funext b
  by_cases hb : b = dx
  · subst hb
    rw [upd_same, upd_same]
  · rw [upd_ne hb, upd_ne hb]
    by_cases hba : b = a
    · subst hba
      rw [del_same, ha]
    · rw [del_ne hba, upd_ne hba, upd_ne hb, upd_ne hba]
theorem exc_end2 {C a dx : Addr} {fs gs : List (Str × V)} (ha : H a = none) (hd : H dx = none) (ne : dx ≠ a) {us : List (Str × V)} :
    upd (del (upd (upd (upd (upd H a (exo a C none)) dx (exd dx fs)) a (exo a C (some dx))) dx (exd dx gs)) a) dx (.xd us) = upd H dx (.xd us) := by
  funext b
  by_cases hb : b = dx
  · subst hb
    rw [upd_same, upd_same]
  · rw [upd_ne hb, upd_ne hb]
    by_cases hba : b = a
    · subst hba
      rw [del_same, ha]
    · rw [del_ne hba, upd_ne hb, upd_ne hba, upd_ne hb, upd_ne hba]
theorem rs_raise {c : Str} {C : Addr} {fl : List Str} {e : Expr} {es : List Expr} {m : AM} {p pos pos' : Pos} (hc : X.calm = true) (tk : Takes X W) (F : ExcX X c C fl) (h2 : fl.length = 1 ∨ fl.length = 2) (hg : Gl X c) (ha : RA X W (e :: es) m)
    (hdb : (c == ("__debug__" : Str)) = false) (he : starEach (e :: es) X.env = (false, eval e X.env) :: starEach es X.env) (hpl : (backTo pos (starEach es X.env)).any (·.1) = false) :
    RS X W (.Raise (some (.Call (.Name c p) (e :: es) [] pos)) none pos') (mRaise c fl m) := by
  obtain ⟨fI, fd, ps, k, iC, tI, hps, hb, hr, F1⟩ := F.run
  refine ps_imp (ps_raise hc tk (pmk_oex (dvs := []) (ds := []) F.oex iC tI F1 hr hb .nil (passes_call tk fun _ _ _ _ h => h.elim) hg F.mg ha hdb he hpl)) fun D σ H ⟨ρ, S, Γ, hr, hgr, q⟩ => ?_
  refine ⟨ρ, S, Γ, hr, hgr, q.bind.mono fun ds S1 ρ1 H1 x1 hr1 ⟨_, q1⟩ vs rvs => ?_⟩
  split at q1
  · rename_i hl
    have hvl : vs.length = fl.length := by rw [← rvs.len]; exact hl
    refine ⟨by rw [hvl]; rcases h2 with e | e <;> rw [e] <;> decide, fun a ha => ?_⟩
    rw [List.append_nil]
    have same : (upd H1 a (exo a C none)) a = some (exo a C none) := upd_same
    refine ⟨by rw [List.length_cons, hvl, hps], a, vs, rfl, same, ?_⟩
    rcases h2 with e | e
    · obtain ⟨f, rfl⟩ := List.length_eq_one_iff.mp e
      obtain ⟨d1, rfl⟩ := List.length_eq_one_iff.mp (hl.trans e)
      obtain ⟨y, rfl⟩ := List.length_eq_one_iff.mp (hvl.trans e)
      rw [RepVs] at rvs
      obtain ⟨_, _, ev, ry, _⟩ := rvs
      cases ev
      refine ⟨y, rfl, V.ref a, rfl, a, C, rfl, F.oex, F.fno f (List.mem_singleton.mpr rfl), .inl ⟨same, fun dx hdx ne => ⟨rfl, dx, [(f, y)], upd_same, ?_, ?_, ?_⟩⟩⟩
      · rw [upd_ne ne, upd_same]
      · rw [upd_ne ne] at hdx; exact hdx
      · rw [upd_ne ne] at hdx
        rw [exc_end ha hdx ne]
        refine q1 ρ1 _ (.ref C) (some dx) (ext_tup hdx) (hr_tup hr1 hdx) ⟨F.mg, .inr ⟨dx, _, rfl, upd_same, ?_⟩⟩
        exact .cons ⟨rfl, RepV.ext (ext_tup hdx).toV _ _ ry⟩ .nil
    · obtain ⟨f, g, rfl⟩ := len_two e
      obtain ⟨d1, d2, rfl⟩ := len_two (hl.trans e)
      obtain ⟨y, z, rfl⟩ := len_two (hvl.trans e)
      rw [RepVs] at rvs
      obtain ⟨_, _, ev, ry, rvs⟩ := rvs
      cases ev
      rw [RepVs] at rvs
      obtain ⟨_, _, ev2, rz, _⟩ := rvs
      cases ev2
      refine ⟨y, rfl, V.ref a, rfl, a, C, rfl, F.oex, F.fno f (by simp), .inl ⟨same, fun dx hdx ne => ?_⟩⟩
      have hdx1 : H1 dx = none := by rw [upd_ne ne] at hdx; exact hdx
      refine ⟨z, rfl, V.ref a, rfl, a, C, rfl, F.oex, F.fno g (by simp), .inr ⟨dx, [(f, y)], upd_same, by rw [upd_ne ne, upd_same], (show 1 ≤ 900 by decide), rfl, dx, [(g, z), (f, y)], ?_, upd_same, hdx1, ?_⟩⟩
      · rw [upd_ne (Ne.symm ne), upd_same]
      · rw [exc_end2 ha hdx1 ne]
        refine q1 ρ1 _ (.ref C) (some dx) (ext_tup hdx1) (hr_tup hr1 hdx1) ⟨F.mg, .inr ⟨dx, _, rfl, upd_same, ?_⟩⟩
        exact .cons ⟨rfl, RepV.ext (ext_tup hdx1).toV _ _ rz⟩ (.cons ⟨rfl, RepV.ext (ext_tup hdx1).toV _ _ ry⟩ .nil)
  · exact q1.elim
end
/-! ### try with several clauses, with and without a name -/
abbrev Hd := Value × Option Nat × (Addr → Value → Option Addr → TS)
/-- the ends of a suite whose clause binds slot i -/
def endsN (oi : Option Nat) (D : Ends) : Ends := match oi with
  | none => D
  | some i => { nx := fun σ' H' => D.nx (σ'.set i none) H', rt := D.rt, bk := fun σ' H' => D.bk (σ'.set i none) H', ct := fun σ' H' => D.ct (σ'.set i none) H' }
def slotN (oi : Option Nat) (a : Addr) (σ : L2.St) : L2.St := match oi with
  | none => σ
  | some i => σ.set i (some (.ref a))
def wMn (K : PySem.W.Frag) (Wout : WX) (D : Ends) : List Hd → WX
  | [] => Wout
  | (c, oi, ts) :: r => fun cls d σ H => ∃ b, PySem.W.exmOne K cls c = some b ∧ (b = true → ∀ a, H a = none → ts a cls d (endsN oi D) (slotN oi a σ) H) ∧ (b = false → wMn K Wout D r cls d σ H)
inductive HdsN (X : Cx) : List ExceptHandler → List Hd → Prop
  | nil : HdsN X [] []
  | cons {x : Str} {c : Value} {on : Option Str} {oi : Option Nat} {ts : Addr → Value → Option Addr → TS} {b₀ : Stmt} {suite : List Stmt} {np pos' : Pos} {hds : List ExceptHandler} {l : List Hd} (hc : Names X x c)
      (hn : (on = none ∧ oi = none) ∨ ∃ n i, on = some n ∧ oi = some i ∧ X.N[i]? = some n ∧ X.env.kindOf n = some .local)
      (hsu : ∀ (a : Addr) (oe : Obj) (cls : Value) (d : Option Addr) (pn : List (Addr × Obj)), Zc cls d oe → (∃ vs, oe.data = .fields vs) → PSs (X.suite a ((a, oe) :: pn)) (b₀ :: suite) (ts a cls d)) (r : HdsN X hds l) :
      HdsN X (.ExceptHandler (some (.Name x np)) on (b₀ :: suite) pos' :: hds) ((c, oi, ts) :: l)
section
variable {X : Cx} {body : List Stmt} {h₀ : ExceptHandler} {hds : List ExceptHandler} {l : List Hd} {pos : Pos} {tb : WX → TS} {Wout : WX}
theorem ps_try_nm (hs : X.stack = X.env :: X.outer) (hf : X.env.frame = some X.env.locals) (hN : X.N.Nodup) (tk : Takes X Wout)
    (hb : ∀ (W : WX) (pn : List (Addr × Obj)) (xe : Value → Shared → Prop), Takes (X.tr pn xe) W → PassesOwn (model X.prog X.w) X.A X.env xe → PSs (X.tr pn xe) body (tb W))
    (hh : HdsN X (h₀ :: hds) l) : PS X (.Try body (h₀ :: hds) [] [] pos) (fun D σ H => tb (wMn X.K Wout D l) D σ H) := by
  refine ⟨fun pins s σ H D I h => ?_⟩
  have ok := I.ok
  have hfr : X.A.frames = some (X.env :: X.outer) := by rw [ok.frames, hs]
  refine wpAny_Try_except ?_
  refine wpAny_mono ((hb (wMn X.K Wout D l) (X.pn ++ pins) (fun e s₁ => wpAny (model X.prog X.w) X.A (noteFrame e X.env) (fun _ s₂ => wpAny (model X.prog X.w) X.A (setFlight e none) (fun _ s₃ =>
    wpAny (model X.prog X.w) X.A (handleBy e X.env (h₀ :: hds)) (SP X pins D) X.xe s₃) X.xe s₂) X.xe s₁) (fun u s' xx => ?_) PassesOwn.looking).run [] s σ H D (I.toTry _) h) (fun f s1 hsp => ?_) (fun e s1 he => he)
  · -- the catch
    obtain ⟨a, B, sI, pins', σ', H', cls, d, rfl, J', nb, up, sky, na, os, ag, w⟩ := xx
    have J : Inv X pins σ' H' sI := J'.ofTry ok
    have sky' : Sky B (X.env :: X.outer) a (Zc cls d) X.env.locals s'.heap := by rw [← hs]; exact sky
    show wpAny (model X.prog X.w) X.A (noteFrame (.ref a) X.env) _ _ _
    refine Sky.land Zc.steady hfr hf sky' fun h3 fl3 up3 => ?_
    have J3 : Inv X pins σ' H' { s' with heap := h3 } := J.landed nb fl3.1 (up.trans up3) os ag
    obtain ⟨oe3, vs3, he3, hz3, hd3⟩ := fl3.there
    have notFr : ∀ {h : Heap} {o : Obj} {vs : Array Value}, h.FunFrames B (X.env :: X.outer) → h.get? a = some o → o.data = .fields vs → a ∉ frs (X.env :: X.outer) := fun {h o vs} ff e dd hm => by
      obtain ⟨_, o', e', hnf⟩ := ff.mem hm
      rw [e] at e'; cases e'
      exact hnf _ dd
    have nfr := notFr fl3.2.2.1 he3 hd3
    have nL : a ≠ X.env.locals := fun z => nfr (List.mem_filterMap.mpr ⟨X.env, List.mem_cons_self, by rw [hf, z]⟩)
    have nF : a ∉ X.fs := fun hm => by
      obtain ⟨e, he, q⟩ := List.mem_filterMap.mp hm
      exact nfr (List.mem_filterMap.mpr ⟨e, List.mem_cons_of_mem _ he, q⟩)
    have S3 := J3.suite he3 hd3 na nL nF
    have go : ∀ {hds' : List ExceptHandler} {l' : List Hd}, HdsN X hds' l' → wMn X.K Wout D l' cls d σ' H' →
        wpAny (model X.prog X.w) X.A (handleBy (.ref a) X.env hds') (SP X pins D) X.xe { s' with heap := h3 } := by
      intro hds' l' hk
      induction hk with
      | nil =>
        intro w
        refine wpAny_handleBy_nil ?_
        obtain ⟨k1, k2, k3, oe, vs, T, oT, ts', he, hz, hd, h1, hr⟩ := id fl3
        unfold PySem.passOn
        refine wpAny_bind (wpAny_field he hd h1 ?_)
        rw [if_neg (show ¬ ((Value.ref T == Value.none) = true) from by simp)]
        have fin : wpAny (model X.prog X.w) X.A (setFlight (.ref a) X.env.frame) (fun _ s4 => wpAny (model X.prog X.w) X.A (throw (.ref a) : Sem Flow) (SP X pins D) X.xe s4) X.xe { s' with heap := h3 } := by
          rw [hf]
          refine HandSPX.setFlight_upZ fl3 fun h4 hh4 up4 => wpAny_throw (tk _ _ ?_)
          exact ⟨a, B, sI, pins, σ', H', cls, d, rfl, J, nb, (up.trans up3).trans up4, .inr (.inr (by rw [hs]; exact hh4)), na, os, ag, w⟩
        first
          | exact wpAny_bind (wpAny_pure (wpAny_bind fin))
          | exact wpAny_bind fin
      | @cons x c on oi ts b₀ suite np pos' hds2 l2 hc hn hsu r ih =>
        intro w
        obtain ⟨b, hb1, hyes, hno⟩ := w
        refine wpAny_handleBy_cons (codeAny_handlers_test ?_) (by intro q; cases q)
        have LT : PySem.W.Looks (model X.prog X.w) h3 (typeOf (.ref a)) cls := fun A Q E s k q => wpAny_typeOf_ref (k _ _ he3) (by rw [hz3.1]; exact q)
        have LM := PySem.W.exm_one (M := model X.prog X.w) (J3.kIn) LT hb1
        have test : ∀ {Q : Value → Shared → Prop} {E : Value → Shared → Prop}, Q c { s' with heap := h3 } → wpAny (model X.prog X.w) (X.A.mark (some (.ref a))) (eval (.Name x np) X.env) Q E { s' with heap := h3 } := fun {Q E} q => by
          obtain ⟨hg, hdbg, hm | ⟨hm, hv, hnn⟩⟩ := hc
          · exact ld_glob (X := X.suite a ((a, oe3) :: (X.pn ++ pins))) S3 hg hm q hdbg
          · exact ld_blt (X := X.suite a ((a, oe3) :: (X.pn ++ pins))) S3 hg hm hv q hnn hdbg
        refine test (LM.here ?_)
        cases b with
        | true =>
          rcases hn with ⟨rfl, rfl⟩ | ⟨n, i, rfl, rfl, hi, hln⟩
          · refine codeAny_handlers_suite ?_
            refine HandSPX.lands_againZ fl3 fun h4 fl4 up4 => ?_
            have J4 : Inv X pins σ' H' { s' with heap := h4 } := J.landed nb fl4.1 ((up.trans up3).trans up4) os ag
            obtain ⟨oe4, vs4, he4, hz4, hd4⟩ := fl4.there
            have S4 := J4.suite he4 hd4 na nL nF
            refine wpAny_mono ((hsu a oe4 cls d (X.pn ++ pins) hz4 ⟨_, hd4⟩).run [] _ _ H' _ S4 (hyes rfl a na)) (fun f s6 hsp => ?_) (fun _ _ z => False.elim z)
            cases f with
            | next =>
              obtain ⟨σ6, H6, S6, q6⟩ := hsp
              exact ⟨_, _, S6.unsuite ok, q6⟩
            | brk =>
              obtain ⟨σ6, H6, S6, q6⟩ := hsp
              exact ⟨_, _, S6.unsuite ok, q6⟩
            | cont =>
              obtain ⟨σ6, H6, S6, q6⟩ := hsp
              exact ⟨_, _, S6.unsuite ok, q6⟩
            | ret u =>
              obtain ⟨v6, σ6, H6, S6, r6, q6⟩ := hsp
              exact ⟨_, _, _, S6.unsuite ok, r6, q6⟩
          · have hloc : Loc X.env.scope n := .inl hln
            refine codeAny_handlers_suite_as ?_
            refine HandSPX.lands_againZ fl3 fun h4 fl4 up4 => ?_
            have J4 : Inv X pins σ' H' { s' with heap := h4 } := J.landed nb fl4.1 ((up.trans up3).trans up4) os ag
            obtain ⟨oe4, vs4, he4, hz4, hd4⟩ := fl4.there
            have S4 := J4.suite he4 hd4 na nL nF
            refine store_ok (X := X.suite a ((a, oe4) :: (X.pn ++ pins))) (v := .ref a) S4 hN hi hloc rfl (fun s5 S5 => ?_) (.inr hln)
            refine wpAny_mono ((hsu a oe4 cls d (X.pn ++ pins) hz4 ⟨_, hd4⟩).run [] s5 _ H' _ S5 (hyes rfl a na)) (fun f s6 hsp => ?_) (fun _ _ z => False.elim z)
            have end_ : ∀ {σ6 : L2.St} {H6 : Hp} {Q : Shared → Prop}, Inv (X.suite a ((a, oe4) :: (X.pn ++ pins))) [] σ6 H6 s6 → (∀ s7, Inv X pins (σ6.set i none) H6 s7 → Q s7) →
                wpAny (model X.prog X.w) X.A (do bindName X.env n .none; unbindBehindTheSuite X.env n pos') (fun _ s7 => Q s7) X.xe s6 := fun {σ6 H6 Q} S6 hq => gone_ok (S6.unsuite ok) hN hi hln hq
            cases f with
            | next =>
              obtain ⟨σ6, H6, S6, q6⟩ := hsp
              exact end_ S6 fun s7 J7 => ⟨_, _, J7, q6⟩
            | brk =>
              obtain ⟨σ6, H6, S6, q6⟩ := hsp
              exact end_ S6 fun s7 J7 => ⟨_, _, J7, q6⟩
            | cont =>
              obtain ⟨σ6, H6, S6, q6⟩ := hsp
              exact end_ S6 fun s7 J7 => ⟨_, _, J7, q6⟩
            | ret u =>
              obtain ⟨v6, σ6, H6, S6, r6, q6⟩ := hsp
              exact end_ S6 fun s7 J7 => ⟨_, _, _, J7, r6, q6⟩
        | false =>
          show wpAny _ X.A (handleBy (.ref a) X.env hds2) _ _ _
          exact ih (hno rfl)
    exact go hh w
  · cases f with
    | next =>
      obtain ⟨σ', H', J', q⟩ := hsp
      exact wpAny_execs_nil ⟨σ', H', J'.ofTry ok, q⟩
    | brk =>
      obtain ⟨σ', H', J', q⟩ := hsp
      exact ⟨σ', H', J'.ofTry ok, q⟩
    | cont =>
      obtain ⟨σ', H', J', q⟩ := hsp
      exact ⟨σ', H', J'.ofTry ok, q⟩
    | ret u =>
      obtain ⟨v, σ', H', J', r, q⟩ := hsp
      exact ⟨v, σ', H', J'.ofTry ok, r, q⟩
end
end KN
set_option maxHeartbeats 200000
namespace KN
open PySem PySem.Spec PyProof.Rows L2
/-! ### suites that store what the exception says -/
inductive SE where
  | cst (d : DV) | fld (f : Str)
def sev (fs : List (Str × DV)) : SE → Option DV
  | .cst d => some d
  | .fld f => fs.lookup f
def sevs (fs : List (Str × DV)) : List SE → Option (List DV)
  | [] => some []
  | e :: r => match sev fs e, sevs fs r with
    | some d, some ds => some (d :: ds)
    | _, _ => none
inductive Su where
  | one (j : Nat) (e : SE) | tup (j : Nat) (es : List SE)
def suM (x c : Str) (fs : List (Str × DV)) : Su → SM
  | .one j e => fun Γ S => if c = x then match sev fs e with
    | some d => .ok (.nx, Γ.set j (some d)) S
    | none => .bad else .bad
  | .tup j es => fun Γ S => if c = x then match sevs fs es with
    | some ds => if ds.length ≤ sizeLine then .ok (.nx, Γ.set j (some (.tup ds))) S else .bad
    | none => .bad else .bad
section
variable {X : Cx} {W : WX} {σ : L2.St} {ρ ρ1 : List Addr} {H H1 : Hp} {pins : List (Addr × Obj)} {s : Shared}
/-- the reading: the fields fs of a's exception at hand -/
def tSE (X : Cx) (i : Nat) (x : Str) (a : Addr) (cls : Value) (d : Option Addr) (e : SE) : TE := fun σ H Q => ∃ ρ c fs dv, c = x ∧ ExcR X ρ H c fs cls d ∧ σ[i]? = some (some (.ref a)) ∧ sev fs e = some dv ∧ ∀ v, XRep X ρ H dv v → Q v H
def tSEs (X : Cx) (i : Nat) (x : Str) (a : Addr) (cls : Value) (d : Option Addr) (es : List SE) : TA := fun σ H Q => ∃ ρ c fs ds, c = x ∧ ExcR X ρ H c fs cls d ∧ (es = [] ∨ σ[i]? = some (some (.ref a))) ∧ sevs fs es = some ds ∧ ∀ vs, RepVs X.K ρ H ds vs → Q vs H
/-- an expression of a suite -/
def SEx (X : Cx) (i : Nat) (x : Str) (e : Expr) (se : SE) : Prop := ∀ (a : Addr) (oe : Obj) (cls : Value) (d : Option Addr) (pn : List (Addr × Obj)), Zc cls d oe → (∃ vs, oe.data = .fields vs) → PE (X.suite a ((a, oe) :: pn)) e (tSE X i x a cls d se)
theorem se_fld {i : Nat} {x n f : Str} {C : Addr} {p pos : Pos} (T : XfC X.K C) (hno : PySem.W.findIn X.K (.ref C) f = some none) (hC : X.mg x = some (.ref C)) (hi : X.N[i]? = some n) (hv : Vis X.env.scope n) (hd : (n == ("__debug__" : Str)) = false) (hcd : (n == ("__classdict__" : Str)) = false) :
    SEx X i x (.Attribute (.Name n p) f pos) (.fld f) := by
  intro a oe cls d pn hz hf
  refine pe_imp (pe_xf (X := X) (C := C) T hno hz hf (pe_var (X := X.suite a ((a, oe) :: pn)) hi hv hd hcd) rfl) fun σ H Q ⟨ρ, c, fs, dv, hc, hr, ha, hs, q⟩ => ?_
  subst hc
  obtain ⟨hm, hh⟩ := hr
  have hcl : cls = .ref C := by rw [hC] at hm; exact (Option.some.inj hm).symm
  rcases hh with ⟨rfl, _⟩ | ⟨da, us, rfl, hda, rf⟩
  · cases hs
  · obtain ⟨v, lv, rv⟩ := (RepFs.lookup rf f).1 dv hs
    exact ⟨.ref a, ha, rfl, hcl, da, us, v, rfl, hda, lv, q v rv⟩
theorem se_of {i : Nat} {x : Str} {e : Expr} {dv : DV} {v : V} (h : ∀ X', PE X' e (tC v)) (r : ∀ ρ H, XRep X ρ H dv v) : SEx X i x e (.cst dv) := by
  intro a oe cls d pn hz hf
  refine pe_imp (h _) fun σ H Q ⟨ρ, c, fs, dv', hc, hr, ha, hs, q⟩ => ?_
  cases hs
  exact q v (r ρ H)
theorem se_str {i : Nat} {x z : Str} {j : Nat} {pos : Pos} : SEx X i x (.Constant (.str z) j pos) (.cst (.str z)) := se_of (fun _ => pe_str) fun _ _ => rep_s
theorem se_int {i : Nat} {x : Str} {z : Int} {j : Nat} {pos : Pos} : SEx X i x (.Constant (.int z) j pos) (.cst (.int z)) := se_of (fun _ => pe_int) fun _ _ => rep_i
theorem se_bl {i : Nat} {x : Str} {z : Bool} {j : Nat} {pos : Pos} : SEx X i x (.Constant (.bool z) j pos) (.cst (.bl z)) := se_of (fun _ => pe_bl) fun _ _ => rep_b
def SExs (X : Cx) (i : Nat) (x : Str) (es : List Expr) (ses : List SE) : Prop := ∀ (a : Addr) (oe : Obj) (cls : Value) (d : Option Addr) (pn : List (Addr × Obj)), Zc cls d oe → (∃ vs, oe.data = .fields vs) → PA (X.suite a ((a, oe) :: pn)) es (tSEs X i x a cls d ses)
theorem ses_nil {i : Nat} {x : Str} : SExs X i x [] [] := fun a oe cls d pn hz hf => pa_imp pa_nil fun σ H Q ⟨ρ, c, fs, ds, hc, hr, ha, hs, q⟩ => by
  cases hs
  exact q [] .nil
theorem ses_cons {i : Nat} {x : Str} {e : Expr} {es : List Expr} {se : SE} {ses : List SE} (h1 : SEx X i x e se) (h2 : SExs X i x es ses) (hst : starEach (e :: es) X.env = (false, eval e X.env) :: starEach es X.env) : SExs X i x (e :: es) (se :: ses) :=
  fun a oe cls d pn hz hf => pa_imp (pa_cons (h1 a oe cls d pn hz hf) (h2 a oe cls d pn hz hf) hst) fun σ H Q ⟨ρ, c, fs, ds, hc, hr, ha, hs, q⟩ => by
    unfold sevs at hs
    split at hs
    · rename_i dv dr e1 e2
      cases hs
      have ha := ha.resolve_left (by simp)
      exact ⟨ρ, c, fs, dv, hc, hr, ha, e1, fun v rv => ⟨ρ, c, fs, dr, hc, hr, .inr ha, e2, fun vs rvs => q (v :: vs) (.cons rv rvs)⟩⟩
    · cases hs
/-- a suite's reading -/
def tSu (X : Cx) (x : Str) (oi : Option Nat) (su : Su) (a : Addr) (cls : Value) (d : Option Addr) : TS := fun D σ H => ∃ ρ S Γ c fs, XHR X ρ H S ∧ GRel X.K ρ H Γ σ ∧ ExcR X ρ H c fs cls d ∧ (∀ i, oi = some i → σ[i]? = some (some (.ref a))) ∧
  PostG X (fun _ _ _ _ => False) σ ρ H (suM x c fs su Γ S) fun r _ ρ' H' => EndG X D r ρ' H'
def SuX (X : Cx) (x : Str) (oi : Option Nat) (su : Su) (suite : List Stmt) : Prop := ∀ (a : Addr) (oe : Obj) (cls : Value) (d : Option Addr) (pn : List (Addr × Obj)), Zc cls d oe → (∃ vs, oe.data = .fields vs) → PSs (X.suite a ((a, oe) :: pn)) suite (tSu X x oi su a cls d)
theorem su_cst {j : Nat} {x y : Str} {oi : Option Nat} {e : Expr} {dv : DV} {p pos : Pos} (he : ∀ i, SEx X i x e (.cst dv)) (hcst : ∀ X', ∃ v, PE X' e (tC v) ∧ ∀ ρ H, XRep X ρ H dv v) (hN : X.N.Nodup) (hj : X.N[j]? = some y) (hy : Loc X.env.scope y) (hs : swapsWith e (some (.Name y p)) pos.line X.env = pure false) (hf : X.env.scope.names.lookup y = some .local) :
    SuX X x oi (.one j (.cst dv)) [.Assign [.Name y p] e pos] := by
  intro a oe cls d pn hz hvs
  obtain ⟨v, hv, rv⟩ := hcst (X.suite a ((a, oe) :: pn))
  refine pss_one (ps_imp (ps_set (X := X.suite a ((a, oe) :: pn)) hN hj hy hv hs (.inr hf)) fun D σ H ⟨ρ, S, Γ, c, fs, hr, hg, hx, ha, q⟩ => ?_)
  unfold suM at q
  dsimp only at q
  split at q
  · exact (q.ok hr) _ (hg.set j (rv ρ H))
  · exact q.elim
theorem su_one {i j : Nat} {x y : Str} {e : Expr} {se : SE} {p pos : Pos} (he : SEx X i x e se) (hN : X.N.Nodup) (hj : X.N[j]? = some y) (hy : Loc X.env.scope y) (hs : swapsWith e (some (.Name y p)) pos.line X.env = pure false) (hf : X.env.scope.names.lookup y = some .local) :
    SuX X x (some i) (.one j se) [.Assign [.Name y p] e pos] := by
  intro a oe cls d pn hz hvs
  refine pss_one (ps_imp (ps_set (X := X.suite a ((a, oe) :: pn)) hN hj hy (he a oe cls d pn hz hvs) hs (.inr hf)) fun D σ H ⟨ρ, S, Γ, c, fs, hr, hg, hx, ha, q⟩ => ?_)
  unfold suM at q
  dsimp only at q
  split at q
  · rename_i hc
    split at q
    · rename_i dv e1
      exact ⟨ρ, c, fs, dv, hc, hx, ha i rfl, e1, fun v rv => (q.ok hr) _ (hg.set j rv)⟩
    · exact q.elim
  · exact q.elim
theorem su_tup {i j k : Nat} {x y : Str} {es : List Expr} {ses : List SE} {p pt pos : Pos} (he : SExs X i x es ses) (hN : X.N.Nodup) (hj : X.N[j]? = some y) (hy : Loc X.env.scope y) (hs : swapsWith (.Tuple es k pt) (some (.Name y p)) pos.line X.env = pure false) (hf : X.env.scope.names.lookup y = some .local) :
    SuX X x (some i) (.tup j ses) [.Assign [.Name y p] (.Tuple es k pt) pos] := by
  intro a oe cls d pn hz hvs
  refine pss_one (ps_imp (ps_set (X := X.suite a ((a, oe) :: pn)) hN hj hy (pe_tupD (he a oe cls d pn hz hvs)) hs (.inr hf)) fun D σ H ⟨ρ, S, Γ, c, fs, hr, hg, hx, ha, q⟩ => ?_)
  unfold suM at q
  dsimp only at q
  split at q
  · rename_i hc
    split at q
    · rename_i ds e1
      split at q
      · rename_i hz
        refine ⟨ρ, c, fs, ds, hc, hx, .inr (ha i rfl), e1, fun vs rvs => ⟨by rw [← rvs.len]; exact hz, ?_⟩⟩
        intro p' o hp ho
        exact q ρ (upd H p' (.frz o (.tup vs))) (ext_tup hp) (hr_tup hr hp) _ ((hg.ext (ext_tup hp).toV).set j (rep_tup hp ho rvs))
      · exact q.elim
    · exact q.elim
  · exact q.elim
/-! ### try -/
def unset (oi : Option Nat) (Γ : DG) : DG := match oi with
  | none => Γ
  | some i => Γ.set i none
def mHs (isx : Str → Str → Option Bool) (c : Str) (fs : List (Str × DV)) : List (Str × Option Nat × Su) → SM
  | [] => fun _ S => .exc c fs S
  | (x, oi, su) :: r => fun Γ S => match isx c x with
    | some true => (suM x c fs su (unset oi Γ) S).bind fun r S2 => match r.1 with
      | .nx => .ok (.nx, unset oi r.2) S2
      | _ => .bad
    | some false => mHs isx c fs r Γ S
    | none => .bad
def mTry (isx : Str → Str → Option Bool) (m : SM) (hs : List (Str × Option Nat × Su)) : SM := fun Γ S => match m Γ S with
  | .exc c fs S1 => mHs isx c fs hs Γ S1
  | r => r
/-- the exceptions' table -/
def IsxOk (X : Cx) (isx : Str → Str → Option Bool) : Prop := ∀ c x b v u, isx c x = some b → X.mg c = some v → X.mg x = some u → PySem.W.exmOne X.K v u = some b
inductive HdsD (X : Cx) : List ExceptHandler → List (Str × Option Nat × Su) → Prop
  | nil : HdsD X [] []
  | cons {x : Str} {C : Addr} {on : Option Str} {oi : Option Nat} {su : Su} {b₀ : Stmt} {suite : List Stmt} {np pos' : Pos} {hds : List ExceptHandler} {l : List (Str × Option Nat × Su)} (hg : Gl X x) (hdb : (x == ("__debug__" : Str)) = false) (hC : X.mg x = some (.ref C))
      (hn : (on = none ∧ oi = none) ∨ ∃ n i, on = some n ∧ oi = some i ∧ X.N[i]? = some n ∧ X.env.kindOf n = some .local)
      (hsu : SuX X x oi su (b₀ :: suite)) (r : HdsD X hds l) : HdsD X (.ExceptHandler (some (.Name x np)) on (b₀ :: suite) pos' :: hds) ((x, oi, su) :: l)
theorem HdsD.toN {hds : List ExceptHandler} {l : List (Str × Option Nat × Su)} (h : HdsD X hds l) : ∃ l', HdsN X hds l' ∧ Paired (fun (p : Str × Option Nat × Su) (q : Hd) => X.mg p.1 = some q.1 ∧ p.2.1 = q.2.1 ∧ (∀ i, p.2.1 = some i → i < X.N.length) ∧ q.2.2 = fun a cls d => tSu X p.1 p.2.1 p.2.2 a cls d) l l' := by
  induction h with
  | nil => exact ⟨[], .nil, .nil⟩
  | @cons x C on oi su b₀ suite np pos' hds l hg hdb hC hn hsu r ih =>
    obtain ⟨l', h1, h2⟩ := ih
    refine ⟨(.ref C, oi, fun a cls d => tSu X x oi su a cls d) :: l', .cons ⟨hg, hdb, .inl hC⟩ hn hsu h1, .cons ⟨hC, rfl, fun i e => ?_, rfl⟩ h2⟩
    rcases hn with ⟨_, e2⟩ | ⟨n, i', _, e2, hi, _⟩
    · rw [e2] at e; cases e
    · rw [e2] at e; cases e
      exact (List.getElem?_eq_some_iff.mp hi).1
theorem suM_ok {x c : Str} {fs : List (Str × DV)} {su : Su} {Γ : DG} {S : DS} {G : DF × DG → DS → List Addr → Hp → Prop} {W' : WX} (h : PostG X W σ ρ H (suM x c fs su Γ S) G) : PostG X W' σ ρ H (suM x c fs su Γ S) G := by
  have key : (∃ r S', suM x c fs su Γ S = .ok r S') ∨ suM x c fs su Γ S = .bad := by
    unfold suM
    split <;> (try dsimp only) <;> split <;> (try split) <;> (try split) <;> first | exact .inl ⟨_, _, rfl⟩ | exact .inr rfl
  rcases key with ⟨r, S', e⟩ | e
  · rw [e] at h ⊢; exact h
  · rw [e] at h; exact h.elim
theorem mn_of {isx : Str → Str → Option Bool} {D : Ends} {l : List (Str × Option Nat × Su)} {l' : List Hd} {Γ : DG} {S1 : DS} {ρ' : List Addr} {H' : Hp} {cls : Value} {d : Option Addr} {c : Str} {fs : List (Str × DV)} (ix : IsxOk X isx) (hσ : σ.length = X.N.length)
    (p : Paired (fun (p : Str × Option Nat × Su) (q : Hd) => X.mg p.1 = some q.1 ∧ p.2.1 = q.2.1 ∧ (∀ i, p.2.1 = some i → i < X.N.length) ∧ q.2.2 = fun a cls d => tSu X p.1 p.2.1 p.2.2 a cls d) l l') (hr : XHR X ρ' H' S1) (hg : GRel X.K ρ' H' Γ σ) (hx : ExcR X ρ' H' c fs cls d)
    (q : PostG X W σ ρ' H' (mHs isx c fs l Γ S1) fun r _ ρ' H' => EndG X D r ρ' H') : wMn X.K W D l' cls d σ H' := by
  induction p with
  | nil => exact q ρ' H' cls d (Ext.refl _ _) hr hx
  | @cons h hd l l' e t ih =>
    obtain ⟨x, oi, su⟩ := h
    obtain ⟨cv, oi', ts⟩ := hd
    obtain ⟨hm, e2, hlt, e3⟩ := e
    dsimp only at hm e2 hlt e3
    subst e2
    subst e3
    unfold mHs at q
    try dsimp only at q
    split at q
    · rename_i hi
      refine ⟨true, ix c x true cls cv hi hx.1 hm, fun _ a ha => ?_, fun hb => absurd hb.symm Bool.false_ne_true⟩
      refine ⟨ρ', S1, unset oi Γ, c, fs, hr, ?_, hx, fun i e => ?_, ?_⟩
      · cases oi with
        | none => exact hg
        | some i => exact hg.unset i
      · subst e
        show (σ.set i (some (.ref a)))[i]? = _
        exact List.getElem?_set_self (by rw [hσ]; exact hlt i rfl)
      · have q' := suM_ok (W' := fun _ _ _ _ => False) (PostG.bind (k := fun (r : DF × DG) S2 => match r.1 with
          | .nx => (.ok (.nx, unset oi r.2) S2 : DR (DF × DG))
          | _ => .bad) q)
        have q'' := PostG.slots (σ' := slotN oi a σ) (fun _ _ _ _ _ h => h) q'
        refine PostG.mono q'' fun r S2 ρ2 H2 x2 hr2 ⟨_, q2⟩ => ?_
        obtain ⟨r1, Γ2⟩ := r
        cases r1 with
        | nx =>
          have q3 := q2.ok hr2
          cases oi with
          | none => exact q3
          | some i => exact fun σ2 g2 => q3 _ (g2.unset i)
        | rt _ => exact q2.elim
        | bk => exact q2.elim
        | ct => exact q2.elim
    · rename_i hi
      exact ⟨false, ix c x false cls cv hi hx.1 hm, ⟨fun hb => absurd hb Bool.false_ne_true, fun _ => ih q⟩⟩
    · exact q.elim
theorem rs_try {isx : Str → Str → Option Bool} {body : List Stmt} {m : SM} {h₀ : ExceptHandler} {hds : List ExceptHandler} {hs : List (Str × Option Nat × Su)} {pos : Pos} (hst : X.stack = X.env :: X.outer) (hf : X.env.frame = some X.env.locals) (hN : X.N.Nodup) (tk : Takes X W) (ix : IsxOk X isx)
    (hb : ∀ (W : WX) (pn : List (Addr × Obj)) (xe : Value → Shared → Prop), Takes (X.tr pn xe) W → PassesOwn (model X.prog X.w) X.A X.env xe → RSs (X.tr pn xe) W body m)
    (hh : HdsD X (h₀ :: hds) hs) : RS X W (.Try body (h₀ :: hds) [] [] pos) (mTry isx m hs) := by
  obtain ⟨l', h1, h2⟩ := hh.toN
  refine ⟨fun pins s σ H D I ⟨ρ, S, Γ, hr, hg, q⟩ => (ps_try_nm (tb := fun W => tS (X.tr [] X.xe) W m) hst hf hN tk hb h1).run pins s σ H D I ?_⟩
  refine ⟨ρ, S, Γ, hr, hg, ?_⟩
  unfold mTry at q
  cases e : m Γ S with
  | bad => rw [e] at q; exact q.elim
  | ok r S1 => rw [e] at q; exact q
  | exc c fs S1 =>
    rw [e] at q
    dsimp only at q
    intro ρ' H' cls d x hr' hx
    exact mn_of ix I.len h2 hr' (hg.ext x) hx (q.shift x)
end
end KN
set_option maxHeartbeats 200000
namespace KN
open PySem PySem.Spec PyProof.Rows L2
section
variable {X : Cx} {W : WX} {σ : L2.St} {ρ ρ1 : List Addr} {H H1 : Hp} {pins : List (Addr × Obj)} {s : Shared} {mt pr : Str → Str → Option DFn} {fl : Str → Str → Bool}
/-! ### == by an own __eq__ -/
def icT (ic : Str → Bool) : TyN → Bool
  | .own k => ic k
  | _ => true
def oEqO (mt : Str → Str → Option DFn) (nf : Str → TyN → Bool) (ic : Str → Bool) : DV → DV → DM DV := fun x y S => match x with
  | .ref n => match S[n]? with
    | some (.ins c _) => match mt c "__eq__", tyOf S y with
      | some g, some t => if (nf c t && icT ic t) = true then match g [x, y] S with
          | .ok d S2 => .ok d S2
          | _ => .bad
        else .bad
      | _, _ => .bad
    | _ => .bad
  | _ => .bad
/-- who is asked first -/
def NfX (X : Cx) (nf : Str → TyN → Bool) : Prop := ∀ c t C tv, nf c t = true → X.mg c = some (.ref C) → t.val X.mg = some tv → PySem.W.notFirst X.K C tv = true
def rEqO (X : Cx) (mt : Str → Str → Option DFn) (nf : Str → TyN → Bool) (ic : Str → Bool) : R2 := fun x y H Q => ∃ ρ S d e, XHR X ρ H S ∧ XRep X ρ H d x ∧ XRep X ρ H e y ∧ PostG X (fun _ _ _ _ => False) [] ρ H (oEqO mt nf ic d e S) fun d _ ρ' H' => ∀ v, XRep X ρ' H' d v → Q v H'
theorem not_ni {v : V} {u : Value} {Q : Value → Shared → Prop} {s' : Shared} (r : RelV v u) (q : Q u s') : PySem.W.CmpBack Q u s' := by
  cases v with
  | non => cases r; exact q
  | bl b => cases r; exact q
  | int i => obtain ⟨t, rfl⟩ := r; exact q
  | str z => obtain ⟨t, rfl⟩ := r; exact q
  | ref a => cases r; exact q
  | _ => first | (cases r; exact q) | (obtain ⟨t, rfl⟩ := r; exact q)
theorem op_eqO {nf : Str → TyN → Bool} {io : TyN → TyN → Option Bool} {ic : Str → Bool} (hu : X.A.units < cLine) (T : ClsX X mt pr fl) (J : IsiX X io ic) (N : NfX X nf) : OpR X (compareOp .Eq) (rEqO X mt nf ic) := by
  intro pins s σ H x y v u Q I rx ry ⟨ρ, S, d, e, hr, rd, re, q⟩
  unfold oEqO at q
  split at q
  · rename_i n
    split at q
    · rename_i c fs e1
      split at q
      · rename_i g t e2 e3
        split at q
        · rename_i h
          rw [Bool.and_eq_true] at h
          obtain ⟨h1, h2⟩ := h
          split at q
          · rename_i dv S2 e4
            obtain ⟨a, ea, rfl⟩ := rep_refE rd
            obtain rfl : v = Value.ref a := rx
            obtain ⟨C, dx, us, hC, hH, rf⟩ := ins_at hr e1 ea
            obtain ⟨hc, f, n', hm, F⟩ := T.mt c _ g C e2 hC
            obtain ⟨tv, ht, P, Z, p, _⟩ := kit_at J I hr re ry e3 (fun k ek => by subst ek; exact h2)
            obtain ⟨mA, O, _⟩ := ins_get I.hok hH
            obtain ⟨od, O, _⟩ := O.look
            obtain ⟨m, hF⟩ := I.fr
            obtain ⟨fd, ps, k, ds0, dvs, F1, hroom, hb, hd, rdd⟩ := F.run
            show wpAny (model X.prog X.w) X.A (richCompare .Eq (.ref a) u) _ _ _
            refine PySem.W.cmp_K (op := .Eq) (tb := tv) hu hF I.ok.mod.kin O (Z.ty _ _ I.kIn p) (N c t C tv h1 hC ht) hm.at_ hm.fn ?_
            have q2 : PostG X (fun _ _ _ _ => False) σ ρ H (g ([.ref n, e] ++ []) S) fun d _ ρ' H' => ∀ v, XRep X ρ' H' d v → Q v H' := by
              rw [List.append_nil, e4]; exact q
            refine wpAny_mono (run_fnSD (E := WE fun _ _ _ _ => False) (us := [.ref a, u]) (vs := [.ref a, y]) F1 (hroom.mono (Nat.le_succ _)) hb hd (passAt takes_none5 σ) I (.cons rfl (.cons ry .nil)) (spCall F.ar hr (.cons rd (.cons re .nil)) (rdd _ _) q2)) (fun w s' hw => ?_) fun _ _ z => z
            obtain ⟨vv, H', I', rv, qq⟩ := hw
            exact not_ni rv ⟨vv, H', I', rv, qq⟩
          · exact q.elim
        · exact q.elim
      · exact q.elim
    · exact q.elim
  · exact q.elim
def isIns (S : DS) : DV → Bool
  | .ref n => match S[n]? with
    | some (.ins _ _) => true
    | _ => false
  | _ => false
def oEqF (mt : Str → Str → Option DFn) (nf : Str → TyN → Bool) (ic : Str → Bool) : DV → DV → DM DV := fun x y S => if isIns S x = true then oEqO mt nf ic x y S else oEq false x y S
def rEqF (X : Cx) (mt : Str → Str → Option DFn) (nf : Str → TyN → Bool) (ic : Str → Bool) : R2 := fun x y H Q => rEqA X.K x y H Q ∨ rEqO X mt nf ic x y H Q
theorem op_eqF {nf : Str → TyN → Bool} {io : TyN → TyN → Option Bool} {ic : Str → Bool} (hu : X.A.units + 64 < cLine) (T : ClsX X mt pr fl) (J : IsiX X io ic) (N : NfX X nf) : OpR X (compareOp .Eq) (rEqF X mt nf ic) := (op_eqA hu).or (op_eqO (by omega) T J N)
theorem prim_eqF {nf : Str → TyN → Bool} {ic : Str → Bool} : Prim2 X (rEqF X mt nf ic) (oEqF mt nf ic) := by
  intro W σ ρ H S x y v u Q hr rx ry q
  unfold oEqF at q
  split at q
  · rename_i h
    refine .inr ⟨ρ, S, x, y, hr, rx, ry, ?_⟩
    have key : (∃ d S2, oEqO mt nf ic x y S = .ok d S2) ∨ oEqO mt nf ic x y S = .bad := by
      unfold oEqO
      (repeat' split) <;> first | exact .inl ⟨_, _, rfl⟩ | exact .inr rfl
    rcases key with ⟨d, S2, e⟩ | e
    · rw [e] at q ⊢; exact q
    · rw [e] at q; exact q.elim
  · exact .inl (prim_eq W σ ρ H S x y v u Q hr rx ry q)
end
end KN
set_option maxHeartbeats 200000
namespace KN
open PySem PySem.Spec PyProof.Rows L2
/-! ### side conditions, by the shape of the text -/
def isStar : Expr → Bool
  | .Starred _ _ => true
  | _ => false
theorem star_plain {e : Expr} {es : List Expr} {env : Env} (h : isStar e = false) : starEach (e :: es) env = (false, eval e env) :: starEach es env := by
  cases e <;> first | rfl | (simp [isStar] at h)
theorem star_star {e : Expr} {p : Pos} {es : List Expr} {env : Env} : starEach (.Starred e p :: es) env = (true, eval e env) :: starEach es env := rfl
def noStar : List Expr → Bool
  | [] => true
  | e :: es => !isStar e && noStar es
theorem noStar_cons {e : Expr} {es : List Expr} (h : noStar (e :: es) = true) : isStar e = false ∧ noStar es = true := by
  unfold noStar at h
  rw [Bool.and_eq_true, Bool.not_eq_true'] at h
  exact h
def isCmp : Expr → Bool
  | .ListComp .. => true
  | .SetComp .. => true
  | .DictComp .. => true
  | _ => false
theorem swaps_no {e : Expr} {t : Option Expr} {l : Nat} {env : Env} (h : isCmp e = false) : swapsWith e t l env = pure false := by
  cases e <;> first | rfl | (simp [isCmp] at h)
def isSetD : Expr → Bool
  | .Set .. => true
  | _ => false
theorem fold_no {e : Expr} {env : Env} (h : isSetD e = false) : ∀ x, foldedSetIterable e env x = pure x := by
  intro x
  cases e <;> first | rfl | (simp [isSetD] at h)
theorem behind_no {op : CmpOp} {e : Expr} (h : isSetD e = false) : behindInMarks op e = false := by
  cases e <;> first | rfl | (simp [isSetD] at h)
theorem marks_no {op op' : CmpOp} {b c : Expr} (h : isSetD c = false) : lastMarks [op, op'] [b, c] = false := behind_no h
/-- o.attr: o is no super() -/
def plainB : Expr → Bool
  | .Call (.Name id _) [] [] _ => id != ("super" : Str)
  | _ => true
theorem abase_no {o : Expr} {attr : Str} {env : Env} {whole : Sem Value} (h : plainB o = true) : attributeBase o attr env whole = whole := by
  unfold attributeBase
  split
  · rename_i id p pos
    have hi : (id != ("super" : Str)) = true := h
    simp only [hi, Bool.true_or, if_true, bind_pure]
  · rfl
theorem back_any {es : List Expr} {pos : Pos} {env : Env} (h : noStar es = true) : (backTo pos (starEach es env)).any (·.1) = false := by
  induction es with
  | nil => rfl
  | cons e es ih =>
    obtain ⟨h1, h2⟩ := noStar_cons h
    rw [star_plain h1]
    show (false || (backTo pos (starEach es env)).any (·.1)) = false
    rw [ih h2]; rfl
theorem back_all {es : List Expr} {pos : Pos} {env : Env} (h : noStar es = true) : (backTo pos (starEach es env)).all (fun x => !x.1) = true := by
  induction es with
  | nil => rfl
  | cons e es ih =>
    obtain ⟨h1, h2⟩ := noStar_cons h
    rw [star_plain h1]
    show (true && (backTo pos (starEach es env)).all (fun x => !x.1)) = true
    rw [ih h2]; rfl
def mcB (o : Expr) (apos pos : Pos) (es : List Expr) : Bool := plainB o && noStar es && (apos.endLine == pos.line) && decide (es.length < 30)
theorem mcB_of {o : Expr} {apos pos : Pos} {es : List Expr} (h : mcB o apos pos es = true) : plainB o = true ∧ noStar es = true ∧ (apos.endLine == pos.line) = true ∧ es.length < 30 := by
  unfold mcB at h
  simp only [Bool.and_eq_true, decide_eq_true_eq] at h
  exact ⟨h.1.1.1, h.1.1.2, h.1.2, h.2⟩
theorem few_ok {apos pos : Pos} {es : List Expr} {env : Env} (h2 : noStar es = true) (h4 : es.length < 30) : ((backTo pos (starEach es env)).all (fun x => !x.1) && (backToKw pos (keywordEach [] env)).all (fun x => x.1.isSome)
      && decide (es.length + ([] : List Keyword).length + (if ([] : List Keyword).isEmpty then 0 else 1) < 30)) = true := by
  rw [back_all h2]
  simpa [keywordEach, backToKw] using h4
theorem mtree {o : Expr} {m : Str} {apos pos : Pos} {es : List Expr} {env : Env} (h : mcB o apos pos es = true) : eval (.Call (.Attribute o m apos) es [] pos) env = (do
      let ov ← eval o env
      standAt apos.atName
      let (f, first) ← holding [ov] (getMethod ov m (do return (← importBound o env).getD true))
      callWith pos f first (backTo pos (starEach es env)) (backToKw pos (keywordEach [] env))) := by
  obtain ⟨h1, h2, h3, h4⟩ := mcB_of h
  refine mcall_of (abase_no h1) fun ov => ?_
  have hf : methodCallForm (es.length + ([] : List Keyword).length) (backTo pos (starEach es env)) (backToKw pos (keywordEach [] env)) = true := by
    unfold methodCallForm
    rw [back_all h2]
    simpa [keywordEach, backToKw] using h4
  unfold methodCall calleeOf methodCallPos
  rw [hf]
  simp only [if_true, h3, Bool.not_true, Bool.false_or, pure_bind]
end KN
set_option maxHeartbeats 200000
namespace KN
open PySem PySem.Spec PyProof.Rows L2
/-! ### the text's plain meaning: what is known of the names -/
structure Cfg where
  top : Nat
  cst : Str → Option DV
  fn : Str → Nat → Option (List DV × DFn)
  mke : Str → Nat → Option (List DV × DFn)
  mt : Str → Str → Option DFn
  pr : Str → Str → Option DFn
  fl : Str → Str → Bool
  io : TyN → TyN → Option Bool
  ic : Str → Bool
  nf : Str → TyN → Bool
  own : Str → Bool
  ex : Str → Option (List Str)
  isx : Str → Str → Option Bool
  blt : Str → Bool
/-- a def of the text, below the level top -/
structure FnS (P : Program) (w : World) (K : PySem.W.Frag) (mg : Str → Option Value) (base : Heap) (top : Nat) (f : Addr) (n : Nat) (dd : List DV) (g : DFn) : Prop where
  ar : ∀ ds S, ds.length ≠ n → g ds S = .bad
  run : ∃ fd ps k ds dvs, FnOk P w K mg base (L2.CX P w) k f fd ps (spOf P w K mg n g) ∧ k + 1 ≤ top ∧ Binds K fd ps ds ∧ Vals dvs ds ∧ (∀ ρ H, RepVs K ρ H dd dvs)
structure Stat (G : Cfg) (P : Program) (w : World) (K : PySem.W.Frag) (mg : Str → Option Value) (base : Heap) : Prop where
  cst : ∀ x d, G.cst x = some d → ∃ v u, mg x = some u ∧ RelV v u ∧ ∀ ρ H, RepV K ρ H d v
  fn : ∀ x n dd g, G.fn x n = some (dd, g) → ∃ f m, mg x = some (.ref f) ∧ PySem.W.keepIn K (.ref f) = true ∧ FnS P w K mg base G.top f m dd g
  mke : ∀ x n dd g, G.mke x n = some (dd, g) → ∃ C f m, mg x = some (.ref C) ∧ Mk K C f ∧ FnS P w K mg base G.top f m dd g
  mt : ∀ c m g C, G.mt c m = some g → mg c = some (.ref C) → Cls K C ∧ ∃ f n, Meth K C m f ∧ FnS P w K mg base G.top f n [] g
  pr : ∀ c m g C, G.pr c m = some g → mg c = some (.ref C) → Cls K C ∧ ∃ p f n fd ps k, PropOf K C m p f ∧ (∀ ds S, ds.length ≠ n → g ds S = .bad) ∧ FnOk P w K mg base (L2.CX P w) k f fd ps (spOf P w K mg n g) ∧ k + 1 ≤ G.top ∧ Binds K fd ps []
  fl : ∀ c f C, G.fl c f = true → mg c = some (.ref C) → Cls K C ∧ NoAttr K C f
  ins : ∀ c C, G.ic c = true → mg c = some (.ref C) → InsC K C
  io : ∀ t c b tv cv, G.io t c = some b → t.val mg = some tv → c.val mg = some cv → PySem.W.kitOne K tv cv = some b
  nf : ∀ c t C tv, G.nf c t = true → mg c = some (.ref C) → t.val mg = some tv → PySem.W.notFirst K C tv = true
  own : ∀ c, G.own c = true → ∃ C, mg c = some (.ref C)
  isx : ∀ c x b v u, G.isx c x = some b → mg c = some v → mg x = some u → PySem.W.exmOne K v u = some b
  blt : ∀ x, G.blt x = true → mg x = none
theorem FnS.toX {X : Cx} {top f n : Nat} {dd : List DV} {g : DFn} (F : FnS X.prog X.w X.K X.mg X.base top f n dd g) (r : Room top X.A) : FnX X f n dd g := by
  obtain ⟨fd, ps, k, ds, dvs, h1, h2, h3⟩ := F.run
  exact ⟨F.ar, fd, ps, k, ds, dvs, h1, r.mono h2, h3⟩
/-- a scope, as the text has it and as it is when the code runs -/
structure ScR (sc real : Scope) : Prop where
  loc : ∀ x, sc.names.lookup x = some .local → real.names.lookup x = some .local
  cf : ∀ x, sc.names.lookup x = some .cell ∨ sc.names.lookup x = some .free → real.names.lookup x = some .cell ∨ real.names.lookup x = some .free
  cel : ∀ x, sc.names.lookup x = some .cell → real.names.lookup x = some .cell
  gl : ∀ x, sc.names.lookup x = some .globalImplicit → real.names.lookup x = some .globalImplicit
structure CtxOk (G : Cfg) (N : List Str) (sc : Scope) (X : Cx) : Prop where
  st : Stat G X.prog X.w X.K X.mg X.base
  rm : Room G.top X.A
  nn : X.N = N
  fnc : ∀ x, sc.names.lookup x = some .cell → X.fn x = true
  nd : N.Nodup
  sc : ScR sc X.env.scope
  calm : X.calm = true
section
variable {G : Cfg} {N : List Str} {sc : Scope} {X : Cx}
theorem CtxOk.cls (C : CtxOk G N sc X) : ClsX X G.mt G.pr G.fl where
  mt := fun c m g Cl h1 h2 => by
    obtain ⟨a, f, n, b, F⟩ := C.st.mt c m g Cl h1 h2
    exact ⟨a, f, n, b, F.toX C.rm⟩
  pr := fun c m g Cl h1 h2 => by
    obtain ⟨a, p, f, n, fd, ps, k, h3, h4, h5, h6, h7⟩ := C.st.pr c m g Cl h1 h2
    exact ⟨a, p, f, n, fd, ps, k, h3, h4, h5, C.rm.mono h6, h7⟩
  fl := C.st.fl
theorem CtxOk.isi (C : CtxOk G N sc X) : IsiX X G.io G.ic := ⟨C.st.ins, C.st.io⟩
theorem CtxOk.nfx (C : CtxOk G N sc X) : NfX X G.nf := C.st.nf
theorem CtxOk.units (C : CtxOk G N sc X) : X.A.units + 64 < cLine := C.rm.units
theorem CtxOk.units5 (C : CtxOk G N sc X) : X.A.units + 65 < cLine := by have := C.rm.un; omega
end
end KN
set_option maxHeartbeats 200000
namespace KN
open PySem PySem.Spec PyProof.Rows L2
/-! ### the compiler: expressions -/
def ixOf (x : Str) : List Str → Option Nat
  | [] => none
  | y :: r => if y = x then some 0 else (ixOf x r).map (· + 1)
theorem ixOf_ok {x : Str} : ∀ {N : List Str} {i : Nat}, ixOf x N = some i → N[i]? = some x
  | [], _, h => by cases h
  | y :: r, i, h => by
    unfold ixOf at h
    split at h
    · rename_i e
      cases h
      simp [e]
    · cases h' : ixOf x r with
      | none => rw [h'] at h; cases h
      | some j =>
        rw [h'] at h
        cases h
        simpa using ixOf_ok h'
def visB (sc : Scope) (x : Str) : Bool := match sc.names.lookup x with
  | some .local => true
  | some .cell => true
  | some .free => true
  | _ => false
def glB (sc : Scope) (x : Str) : Bool := match sc.names.lookup x with
  | some .globalImplicit => true
  | _ => false
def locB (sc : Scope) (x : Str) : Bool := match sc.names.lookup x with
  | some .local => true
  | some .cell => true
  | _ => false
def okN (x : Str) : Bool := !(x == ("__debug__" : Str)) && !(x == ("__classdict__" : Str)) && !(x == ("__name__" : Str))
abbrev P2 := DV → DV → DM DV
abbrev PN := List DV → DM DV
def opP : Operator → Option P2
  | .Add => some oAdd
  | .Sub => some oSub
  | .Mult => some oMul
  | .FloorDiv => some oFdiv
  | .Mod => some oMod
  | .Pow => some oPow
  | _ => none
def cmpP (G : Cfg) : CmpOp → Option P2
  | .Eq => some (oEqF G.mt G.nf G.ic)
  | .NotEq => some (oEq true)
  | .Lt => some (oCmp fun i j => decide (i < j))
  | .LtE => some (oCmp fun i j => decide (i ≤ j))
  | .Gt => some (oCmp fun i j => decide (j < i))
  | .GtE => some (oCmp fun i j => decide (j ≤ i))
  | .In => some (oInA false)
  | .NotIn => some (oInA true)
  | _ => none
def bltP (x : Str) : Option PN :=
  if x = "len" then some oLen else if x = "abs" then some oAbs else if x = "int" then some oInt else if x = "list" then some oList else if x = "tuple" then some oTuple
  else if x = "any" then some oAny else if x = "all" then some oAll else if x = "str" then some oStr else if x = "sorted" then some oSorted else none
def bmP (m : Str) : BT → Option (DV → List DV → DM DV)
  | .list => if m = "append" then some oAppend else if m = "extend" then some oExtend else if m = "pop" then some oPopL else if m = "index" then some (fun x ds S => if tyD S x = some .list then oIndex x ds S else .bad) else none
  | .tuple => if m = "index" then some (fun x ds S => if tyD S x = some .tuple then oIndex x ds S else .bad) else none
  | .str => if m = "split" then some oSplit else if m = "join" then some oJoin else none
  | .dict => none
/-- o.m(..): whose method is asked, by the value -/
def mCallM (mt : Str → Str → Option DFn) (m : Str) (o : EM) (a : AM) : EM := fun Γ S => (o Γ S).bind fun x S1 => match tyD S1 x with
  | some T => match bmP m T with
    | some p => (a Γ S1).bind fun ds S2 => p x ds S2
    | none => .bad
  | none => match x with
    | .ref n => match S1[n]? with
      | some (.ins c fs) => match mt c m, fs.lookup m with
        | some g, none => (a Γ S1).bind fun ds S2 => g (x :: ds) S2
        | _, _ => .bad
      | _ => .bad
    | _ => .bad
def bE : EM := fun _ _ => .bad
def bT : TM := fun _ _ => .bad
def bA : AM := fun _ _ => .bad
def bI : IM := fun _ _ => .bad
def tyBlt : List String := ["int", "bool", "str", "tuple", "list", "dict"]
def tyName (G : Cfg) (x : Str) : Option TyN :=
  if G.own x = true then some (.own x) else if G.blt x = true then (tyBlt.find? (fun n => decide (x = Str.ofString n))).map .bi else none
/-- the block's own names and their slots -/
def ownOf (N : List Str) : List (Str × NameKind) → List (Str × Nat)
  | [] => []
  | (x, k) :: r => match k, ixOf x N with
    | .local, some i => (x, i) :: ownOf N r
    | .cell, some i => (x, i) :: ownOf N r
    | _, _ => ownOf N r
def blkB (sc scope : Scope) : Bool := scope.kind == .function && scope.names.all (fun y => scope.names.lookup y.1 == some y.2) &&
  scope.names.all (fun y => !(y.2 == .free) || sc.names.lookup y.1 == some .cell || sc.names.lookup y.1 == some .free)
/-- targets of a for: a name, a tuple of names -/
def tgNames : Expr → Option (List Str)
  | .Name x _ => some [x]
  | .Tuple es _ _ => es.mapM fun e => match e with
    | .Name x _ => some x
    | _ => none
  | _ => none
def plainIxB : Expr → Bool
  | .Slice .. => false
  | .Tuple .. => false
  | _ => true
section
variable (G : Cfg) (N : List Str)
def cName (sc : Scope) (x : Str) : EM :=
  if okN x = true then
    if visB sc x = true then match ixOf x N with
      | some i => mVar i
      | none => bE
    else if glB sc x = true then match G.cst x with
      | some d => mCst d
      | none => bE
    else bE
  else bE
def mIfT (t : TM) (a b : TM) : TM := fun Γ S => (t Γ S).bind fun c S1 => if c = true then a Γ S1 else b Γ S1
def cGs (sc : Scope) : List Expr → GsM
  | [] => gNilD
  | .Name x _ :: r => match locB sc x, ixOf x N with
    | true, some i => gConsD (gSet i) (cGs sc r)
    | _, _ => fun _ _ _ => .bad
  | .Attribute (.Name x _) f _ :: r => gConsD (gFld G.fl f (cName G N sc x)) (cGs sc r)
  | _ => fun _ _ _ => .bad
def okTs : List Expr → Bool
  | [] => true
  | .Name _ _ :: r => okTs r
  | .Attribute _ _ _ :: r => okTs r
  | _ => false
def cG (sc : Scope) : Expr → GM
  | .Name x _ => match locB sc x, ixOf x N with
    | true, some i => gSet i
    | _, _ => fun _ _ _ => .bad
  | .Tuple es _ _ => if okTs es = true then gTupD es.length (cGs G N sc es) else fun _ _ _ => .bad
  | _ => fun _ _ _ => .bad
mutual
def cE : Nat → Scope → Expr → EM
  | 0, _, _ => bE
  | n + 1, sc, e => match e with
    | .Constant c _ _ => match c with
      | .none => mCst .non
      | .bool b => mCst (.bl b)
      | .int i => mCst (.int i)
      | .str x => mCst (.str x)
      | _ => bE
    | .Name x _ => cName G N sc x
    | .BinOp a op b _ => match opP op with
      | some p => mBin p (cE n sc a) (cE n sc b)
      | none => bE
    | .UnaryOp .Not a _ => mNotV (cE n sc a)
    | .UnaryOp .USub a _ => mNeg (cE n sc a)
    | .BoolOp .And (a :: r) pos => match r with
      | [] => cE n sc a
      | b :: r' => mAndV (cE n sc a) (cE n sc (.BoolOp .And (b :: r') pos))
    | .BoolOp .Or (a :: r) pos => match r with
      | [] => cE n sc a
      | b :: r' => mOrV (cE n sc a) (cE n sc (.BoolOp .Or (b :: r') pos))
    | .IfExp c a b _ => mIf (cT n sc c) (cE n sc a) (cE n sc b)
    | .Compare a ops cs pos => cC n sc a ops cs
    | .Tuple es _ _ => mTup (cA n sc es)
    | .List es _ => mLst (cA n sc es)
    | .Subscript a b _ => match b with
      | .Slice lo hi none _ => mSl (cE n sc a) (cO n sc lo) (cO n sc hi)
      | _ => if plainIxB b = true then mBin oIx (cE n sc a) (cE n sc b) else bE
    | .Attribute o f _ => if plainB o = true then mAttr G.pr G.fl f (cE n sc o) else bE
    | .Call (.Name x _) args [] _ => cF n sc x args
    | .Call (.Attribute o m apos) args [] pos => if mcB o apos pos args = true then mCallM G.mt m (cE n sc o) (match args with
      | [] => mNil
      | a :: r => cA n sc (a :: r)) else bE
    | .ListComp elt [⟨tgt, iter, ifs, k⟩] scope _ => if k = 0 then cL n sc elt tgt iter ifs scope else bE
    | _ => bE
def cC : Nat → Scope → Expr → List CmpOp → List Expr → EM
  | 0, _, _, _, _ => bE
  | n + 1, sc, a, ops, cs => match ops, cs with
    | [.Is], [.Constant .none _ _] => mIsN false (cE n sc a)
    | [.IsNot], [.Constant .none _ _] => mIsN true (cE n sc a)
    | [op], [b] => match cmpP G op with
      | some p => if isSetD b = true then bE else mBin p (cE n sc a) (cE n sc b)
      | none => bE
    | [op, op'], [b, c] => match cmpP G op, cmpP G op' with
      | some p, some p' => if isSetD c = true then bE else mChain p p' (cE n sc a) (cE n sc b) (cE n sc c)
      | _, _ => bE
    | _, _ => bE
def cT : Nat → Scope → Expr → TM
  | 0, _, _ => bT
  | n + 1, sc, e => match e with
    | .UnaryOp .Not a _ => mNotT (cT n sc a)
    | .BoolOp .And (a :: r) pos => match r with
      | [] => cT n sc a
      | b :: r' => mAndT (cT n sc a) (cT n sc (.BoolOp .And (b :: r') pos))
    | .BoolOp .Or (a :: r) pos => match r with
      | [] => cT n sc a
      | b :: r' => mOrT (cT n sc a) (cT n sc (.BoolOp .Or (b :: r') pos))
    | .IfExp c a b _ => mIfT (cT n sc c) (cT n sc a) (cT n sc b)
    | .BoolOp _ [] _ => bT
    | .Compare a ops cs _ => mTest (cC n sc a ops cs)
    | e => mTest (cE n sc e)
def cA : Nat → Scope → List Expr → AM
  | 0, _, _ => bA
  | n + 1, sc, es => match es with
    | [] => mNil
    | .Starred e _ :: r => mStar (cE n sc e) (cA n sc r)
    | e :: r => mCons (cE n sc e) (cA n sc r)
def cO : Nat → Scope → Option Expr → OM
  | 0, _, _ => fun _ _ => .bad
  | n + 1, sc, e => match e with
    | none => mNoP
    | some e => mPart (cE n sc e)
def cF : Nat → Scope → Str → List Expr → EM
  | 0, _, _, _ => bE
  | n + 1, sc, x, args => if (okN x && glB sc x && noStar args) = true then
      if x = "isinstance" then match args with
        | [e, .Name c _] => if (G.blt x && okN c && glB sc c) = true then match tyName G c with
          | some t => mIsi G.io G.ic t (cE n sc e)
          | none => bE else bE
        | _ => bE
      else match G.fn x args.length with
        | some (dd, g) => mCallF g dd (match args with
          | [] => mNil
          | a :: r => cA n sc (a :: r))
        | none => match G.mke x args.length with
          | some (dd, g) => if args.isEmpty = true then bE else mMake x g dd (cA n sc args)
          | none => if G.blt x = true then match args with
            | [.Call (.Name y _) [e] [] _] => if x = "sorted" ∧ y = "set" then (if (G.blt y && okN y && glB sc y && !isStar e) = true then mSortSet (cA n sc [e]) else bE) else match bltP x with
              | some p => mCallB p (cA n sc args)
              | none => bE
            | [] => bE
            | _ => match bltP x with
              | some p => mCallB p (cA n sc args)
              | none => bE
            else bE
    else bE
def cI : Nat → Scope → Expr → Expr → IM
  | 0, _, _, _ => bI
  | n + 1, sc, tg, e => match e with
    | .Call (.Name x _) [a] [] _ => if x = "range" ∧ G.blt x = true ∧ glB sc x = true ∧ isStar a = false then mRng1 (cA n sc [a])
      else if x = "enumerate" ∧ G.blt x = true ∧ glB sc x = true ∧ isStar a = false then (match tg with
        | .Tuple _ _ _ => mEnum (cA n sc [a])
        | _ => bI)
      else mSrc (cE n sc e)
    | .Call (.Name x _) [a, b] [] _ => if x = "range" ∧ G.blt x = true ∧ glB sc x = true ∧ isStar a = false ∧ isStar b = false then mRng2 (cA n sc [a, b]) else mSrc (cE n sc e)
    | e => mSrc (cE n sc e)
def cL : Nat → Scope → Expr → Expr → Expr → List Expr → Scope → EM
  | 0, _, _, _, _, _, _ => bE
  | n + 1, sc, elt, tgt, iter, ifs, scope => if (blkB sc scope && !isSetD iter) = true then
      match ifs with
      | [] => mLc (cI n sc tgt iter) ((ownOf N scope.names).map (·.2)) (cG G N scope tgt) mYes (cE n scope elt)
      | [c] => mLc (cI n sc tgt iter) ((ownOf N scope.names).map (·.2)) (cG G N scope tgt) (cT n scope c) (cE n scope elt)
      | _ => bE
    else bE
end
end
end KN
set_option maxHeartbeats 200000
namespace KN
open PySem PySem.Spec PyProof.Rows L2
example (G : Cfg) (N : List Str) (sc : Scope) (pos : Pos) : cE G N 5 sc (.Constant .none 0 pos) = mCst .non := rfl
structure Snd (G : Cfg) (N : List Str) (n : Nat) : Prop where
  E : ∀ {sc : Scope} {X : Cx} {W : WX} (e : Expr), CtxOk G N sc X → Takes X W → RE X W e (cE G N n sc e)
  C : ∀ {sc : Scope} {X : Cx} {W : WX} (a : Expr) (ops : List CmpOp) (cs : List Expr) (pos : Pos), CtxOk G N sc X → Takes X W → RE X W (.Compare a ops cs pos) (cC G N n sc a ops cs) ∧ RT X W (.Compare a ops cs pos) (mTest (cC G N n sc a ops cs))
  T : ∀ {sc : Scope} {X : Cx} {W : WX} (e : Expr), CtxOk G N sc X → Takes X W → RT X W e (cT G N n sc e)
  B : ∀ {sc : Scope} {X : Cx} {W : WX} (op : BoolOp) (vs : List Expr) (pos : Pos), CtxOk G N sc X → Takes X W → RW X W (.BoolOp op vs pos) (cT G N n sc (.BoolOp op vs pos))
  A : ∀ {sc : Scope} {X : Cx} {W : WX} (es : List Expr), CtxOk G N sc X → Takes X W → RA X W es (cA G N n sc es)
  O : ∀ {sc : Scope} {X : Cx} {W : WX} (e : Option Expr), CtxOk G N sc X → Takes X W → RO X W e (cO G N n sc e)
  F : ∀ {sc : Scope} {X : Cx} {W : WX} (x : Str) (args : List Expr) (p pos : Pos), CtxOk G N sc X → Takes X W → RE X W (.Call (.Name x p) args [] pos) (cF G N n sc x args)
  I : ∀ {sc : Scope} {X : Cx} {W : WX} (tg e : Expr), CtxOk G N sc X → Takes X W → RI X W tg e (cI G N n sc tg e)
  L : ∀ {sc : Scope} {X : Cx} {W : WX} (elt tgt iter : Expr) (ifs : List Expr) (scope : Scope) (pos : Pos), CtxOk G N sc X → Takes X W → RE X W (.ListComp elt [⟨tgt, iter, ifs, 0⟩] scope pos) (cL G N n sc elt tgt iter ifs scope)
section
variable {G : Cfg} {N : List Str} {sc : Scope} {X : Cx} {W : WX} {n : Nat}
theorem ro_bad {e : Option Expr} : RO X W e (fun _ _ => .bad) := ⟨fun _ _ _ _ _ _ ⟨_, _, _, _, _, q⟩ => q.elim⟩
theorem rw_bad {e : Expr} : RW X W e (fun _ _ => .bad) := ⟨fun _ _ _ _ _ _ _ ⟨_, _, _, _, _, q⟩ => q.elim⟩
theorem testbad {e : Expr} : RT X W e (mTest bE) := rt_bad
theorem vis_of (C : CtxOk G N sc X) {x : Str} (h : visB sc x = true) : Vis X.env.scope x := by
  unfold visB at h
  split at h
  · rename_i e; exact .inl (C.sc.loc x e)
  · rename_i e; rcases C.sc.cf x (.inl e) with k | k; exact .inr (.inl k); exact .inr (.inr k)
  · rename_i e; rcases C.sc.cf x (.inr e) with k | k; exact .inr (.inl k); exact .inr (.inr k)
  · cases h
theorem gl_of (C : CtxOk G N sc X) {x : Str} (h : glB sc x = true) : Gl X x := by
  unfold glB at h
  split at h
  · rename_i e; exact C.sc.gl x e
  · cases h
theorem loc_of (C : CtxOk G N sc X) {x : Str} (h : locB sc x = true) : Loc X.env.scope x ∧ (X.fn x = true ∨ X.env.scope.names.lookup x = some .local) := by
  unfold locB at h
  split at h
  · rename_i e; exact ⟨.inl (C.sc.loc x e), .inr (C.sc.loc x e)⟩
  · rename_i e; exact ⟨.inr (C.sc.cel x e), .inl (C.fnc x e)⟩
  · cases h
theorem okN_of {x : Str} (h : okN x = true) : (x == ("__debug__" : Str)) = false ∧ (x == ("__classdict__" : Str)) = false ∧ x ≠ ("__name__" : Str) := by
  unfold okN at h
  simp only [Bool.and_eq_true, Bool.not_eq_true'] at h
  exact ⟨h.1.1, h.1.2, fun e => by rw [e] at h; simp at h⟩
theorem cName_ok (C : CtxOk G N sc X) {x : Str} {pos : Pos} : RE X W (.Name x pos) (cName G N sc x) := by
  unfold cName
  split
  · rename_i h
    obtain ⟨h1, h2, h3⟩ := okN_of h
    split
    · rename_i hv
      split
      · rename_i i hi
        exact re_var (by rw [C.nn]; exact ixOf_ok hi) (vis_of C hv) h1 h2
      · exact re_bad
    · split
      · rename_i hg
        split
        · rename_i d hd
          obtain ⟨v, u, e1, e2, e3⟩ := C.st.cst x d hd
          exact re_glob (gl_of C hg) e1 e2 h1 e3
        · exact re_bad
      · exact re_bad
  · exact re_bad
theorem opP_ok {op : Operator} {p : P2} (h : opP op = some p) : ∃ r, OpR X (binaryOp op) r ∧ Prim2 X r p := by
  unfold opP at h
  split at h <;> cases h
  · exact ⟨_, op_addA, prim_add⟩
  · exact ⟨_, op_sub, prim_sub⟩
  · exact ⟨_, op_mulA, prim_mul⟩
  · exact ⟨_, op_fdiv, prim_fdiv⟩
  · exact ⟨_, op_mod, prim_mod⟩
  · exact ⟨_, op_pow, prim_pow⟩
theorem cmpP_ok (C : CtxOk G N sc X) {op : CmpOp} {p : P2} (h : cmpP G op = some p) : ∃ r, OpR X (compareOp op) r ∧ Prim2 X r p := by
  unfold cmpP at h
  split at h <;> cases h
  · exact ⟨_, op_eqF C.units C.cls C.isi C.nfx, prim_eqF⟩
  · exact ⟨_, op_neA C.units, prim_ne⟩
  · exact ⟨_, op_lt, prim_cmp _⟩
  · exact ⟨_, op_le, prim_cmp _⟩
  · exact ⟨_, op_gt, prim_cmp _⟩
  · exact ⟨_, op_ge, prim_cmp _⟩
  · exact ⟨_, op_inA C.units5, prim_inA false⟩
  · exact ⟨_, op_notInA C.units5, prim_inA true⟩
theorem bltP_ok (C : CtxOk G N sc X) {x : Str} {p : PN} (h : bltP x = some p) : (∃ id r, CallR X (.builtin id) r ∧ PrimN X r p ∧ bootBuiltins x = some (.builtin id)) ∨ ∃ T r, CallR X (.type T) r ∧ PrimN X r p ∧ bootBuiltins x = some (.type T) := by
  unfold bltP at h
  split at h
  · rename_i e; subst e; cases h; exact .inl ⟨_, _, call_lenA, prim_len, Boot.«len»⟩
  split at h
  · rename_i e; subst e; cases h; exact .inl ⟨_, _, call_abs, prim_abs, Boot.«abs»⟩
  split at h
  · rename_i e; subst e; cases h; exact .inr ⟨_, _, call_int1.or call_int_str, prim_int, Boot.«int»⟩
  split at h
  · rename_i e; subst e; cases h; exact .inr ⟨_, _, call_listA C.calm, prim_list, Boot.«list»⟩
  split at h
  · rename_i e; subst e; cases h; exact .inr ⟨_, _, call_tupD, prim_tuple, Boot.«tuple»⟩
  split at h
  · rename_i e; subst e; cases h; exact .inl ⟨_, _, cr_any C.calm, prim_any, Boot.«any»⟩
  split at h
  · rename_i e; subst e; cases h; exact .inl ⟨_, _, cr_all C.calm, prim_all, Boot.«all»⟩
  split at h
  · rename_i e; subst e; cases h; exact .inr ⟨_, _, call_str_int, prim_str, Boot.«str»⟩
  split at h
  · rename_i e; subst e; cases h; exact .inl ⟨_, _, call_sortedD C.units, prim_sorted, Boot.«sorted»⟩
  cases h
theorem args1 {e : Expr} {es : List Expr} (h : noStar (e :: es) = true) {env : Env} : starEach (e :: es) env = (false, eval e env) :: starEach es env := star_plain (noStar_cons h).1
theorem argsT {e : Expr} {es : List Expr} {pos : Pos} {env : Env} (h : noStar (e :: es) = true) : (backTo pos (starEach es env)).any (·.1) = false := back_any (noStar_cons h).2
/-- one answer for each state -/
theorem re_case {e : Expr} {m : EM} (h : ∀ Γ S, ∃ m', RE X W e m' ∧ m' Γ S = m Γ S) : RE X W e m :=
  ⟨fun pins s σ H Q I ⟨ρ, S, Γ, hr, hg, q⟩ => by
    obtain ⟨m', h1, h2⟩ := h Γ S
    exact h1.run pins s σ H Q I ⟨ρ, S, Γ, hr, hg, by rw [h2]; exact q⟩⟩
theorem bmP_ok (C : CtxOk G N sc X) {m : Str} {T : BT} {p : DV → List DV → DM DV} (h : bmP m T = some p) : BmX X T m p := by
  unfold bmP at h
  cases T with
  | list =>
    dsimp only at h
    split at h
    · rename_i e; subst e; cases h; exact ⟨_, _, F.plainAttrs_list, F.slot_list_append, F.type_list_append, mt_append, prim_append⟩
    split at h
    · rename_i e; subst e; cases h; exact ⟨_, _, F.plainAttrs_list, F.slot_list_extend, F.type_list_extend, mt_extend, prim_extend⟩
    split at h
    · rename_i e; subst e; cases h; exact ⟨_, _, F.plainAttrs_list, F.slot_list_pop, F.type_list_pop, mt_popL, prim_popL⟩
    split at h
    · rename_i e; subst e; cases h; exact ⟨_, _, F.plainAttrs_list, F.slot_list_index, F.type_list_index, mt_indexL C.units, prim_index .list⟩
    cases h
  | tuple =>
    dsimp only at h
    split at h
    · rename_i e; subst e; cases h; exact ⟨_, _, F.plainAttrs_tuple, F.slot_tuple_index, F.type_tuple_index, mt_indexT C.units, prim_index .tuple⟩
    cases h
  | str =>
    dsimp only at h
    split at h
    · rename_i e; subst e; cases h; exact ⟨_, _, F.plainAttrs_str, F.slot_str_split, F.type_str_split, mt_split, prim_split⟩
    split at h
    · rename_i e; subst e; cases h; exact ⟨_, _, F.plainAttrs_str, F.slot_str_join, F.type_str_join, mt_join, prim_join⟩
    cases h
  | dict => cases h
theorem tyD_ins {S : DS} {n : Nat} {c : Str} {fs : List (Str × DV)} (e : S[n]? = some (.ins c fs)) : tyD S (.ref n) = none := by
  unfold tyD
  dsimp only
  rw [e]
theorem callM_ok {o : Expr} {m : Str} {mo : EM} {ma : AM} {args : List Expr} {apos pos : Pos} (C : CtxOk G N sc X) (tk : Takes X W) (ho : RE X W o mo) (ha : RA X W args ma) (hnil : args = [] → ma = mNil) (h : mcB o apos pos args = true) : RE X W (.Call (.Attribute o m apos) args [] pos) (mCallM G.mt m mo ma) := by
  obtain ⟨h1, h2, h3, h4⟩ := mcB_of h
  have own : RE X W (.Call (.Attribute o m apos) args [] pos) (mMeth G.mt m mo ma) := by
    cases args with
    | nil => rw [hnil rfl]; exact re_meth0 C.cls tk ho (mtree h)
    | cons e es => exact re_meth C.cls tk ho ha (args1 h2) (argsT h2) (mtree h)
  have bi : ∀ T p, bmP m T = some p → RE X W (.Call (.Attribute o m apos) args [] pos) (mBm T p mo ma) := fun T p hp => by
    cases args with
    | nil => rw [hnil rfl]; exact re_bm0 (bmP_ok C hp) ho (abase_no h1) h3
    | cons e es => exact re_bm (bmP_ok C hp) ho ha (abase_no h1) (few_ok (apos := apos) h2 h4) h3 (args1 h2) (argsT h2)
  refine re_case fun Γ S => ?_
  cases e : mo Γ S with
  | bad => exact ⟨_, own, by unfold mMeth mCallM; rw [e]; rfl⟩
  | exc c fs S1 => exact ⟨_, own, by unfold mMeth mCallM; rw [e]; rfl⟩
  | ok x S1 =>
    cases eT : tyD S1 x with
    | some T =>
      cases ep : bmP m T with
      | none => exact ⟨_, re_bad, by unfold mCallM; rw [e]; dsimp only [bind_ok]; rw [eT]; dsimp only; rw [ep]⟩
      | some p => exact ⟨_, bi T p ep, by unfold mCallM mBm; rw [e]; dsimp only [bind_ok]; rw [eT, if_pos rfl]; dsimp only; rw [ep]⟩
    | none => exact ⟨_, own, by unfold mCallM mMeth; rw [e]; dsimp only [bind_ok]; rw [eT] <;> rfl⟩
theorem rt_ifE {c a b : Expr} {pos : Pos} {t ma mb : TM} (hc : RT X W c t) (ha : RT X W a ma) (hb : RT X W b mb) : RT X W (.IfExp c a b pos) (mIfT t ma mb) := by
  refine ⟨fun pins s σ H Q I ⟨ρ, S, Γ, hr, hg, q⟩ => ?_⟩
  rw [show isTrue (.IfExp c a b pos) X.env (eval (.IfExp c a b pos) X.env) = (do if ← isTrue c X.env (eval c X.env) then isTrue a X.env (eval a X.env) else isTrue b X.env (eval b X.env)) from by rw [PySem.isTrue]]
  refine wpAny_bind (thn (hc.run pins s σ H (fun k H1 => ∃ ρ1 S1, XHR X ρ1 H1 S1 ∧ GRel X.K ρ1 H1 Γ σ ∧ PostG X W σ ρ1 H1 (if k = true then ma Γ S1 else mb Γ S1) fun b _ _ H' => Q b H') I ⟨ρ, S, Γ, hr, hg, q.bind.mono fun k S1 ρ1 H1 x1 hr1 ⟨_, q1⟩ => ⟨ρ1, S1, hr1, hg.ext x1, q1⟩⟩) fun k s1 ⟨H1, I1, ρ1, S1, hr1, hg1, q1⟩ => ?_)
  cases k with
  | true => rw [if_pos rfl] at q1 ⊢; exact ha.run pins s1 σ H1 Q I1 ⟨ρ1, S1, Γ, hr1, hg1, q1⟩
  | false => rw [if_neg Bool.false_ne_true] at q1 ⊢; exact hb.run pins s1 σ H1 Q I1 ⟨ρ1, S1, Γ, hr1, hg1, q1⟩
end
end KN
set_option maxHeartbeats 200000
namespace KN
open PySem PySem.Spec PyProof.Rows L2
section
variable {G : Cfg} {N : List Str} {sc : Scope} {X : Cx} {W : WX} {n : Nat}
theorem snd0 : Snd G N 0 := ⟨fun _ _ _ => re_bad, fun _ _ _ _ _ _ => ⟨re_bad, rt_bad⟩, fun _ _ _ => rt_bad, fun _ _ _ _ _ => rw_bad, fun _ _ _ => ra_bad, fun _ _ _ => ro_bad, fun _ _ _ _ _ _ => re_bad, fun _ _ _ _ => ri_bad, fun _ _ _ _ _ _ _ _ => re_bad⟩
theorem plainIx_ok {b : Expr} (h : plainIxB b = true) : PlainIx b := by
  intro o i
  cases b <;> first | rfl | (simp [plainIxB] at h)
theorem cA_nil {n : Nat} {args : List Expr} (h : args = []) : cA G N (n + 1) sc args = mNil := by
  subst h; unfold cA; rfl
theorem cE_ok (Z : Snd G N n) (e : Expr) (C : CtxOk G N sc X) (tk : Takes X W) : RE X W e (cE G N (n + 1) sc e) := by
  unfold cE
  split
  · split
    · exact re_non
    · exact re_bl
    · exact re_int
    · exact re_str
    · exact re_bad
  · exact cName_ok C
  · split
    · rename_i p hp
      obtain ⟨r, h1, h2⟩ := opP_ok (X := X) hp
      exact re_op h1 h2 (Z.E _ C tk) (Z.E _ C tk)
    · exact re_bad
  · exact re_not (Z.E _ C tk)
  · exact re_neg (Z.E _ C tk)
  · split
    · exact re_one (Z.E _ C tk)
    · exact re_and (Z.E _ C tk) (Z.E _ C tk)
  · split
    · exact re_one (Z.E _ C tk)
    · exact re_or (Z.E _ C tk) (Z.E _ C tk)
  · exact re_if (Z.T _ C tk) (Z.E _ C tk) (Z.E _ C tk)
  · exact (Z.C _ _ _ _ C tk).1
  · exact re_tup (Z.A _ C tk)
  · exact re_lst (Z.A _ C tk)
  · split
    · exact re_slice (Z.E _ C tk) (Z.O _ C tk) (Z.O _ C tk)
    · split
      · rename_i h
        exact re_ix C.units (Z.E _ C tk) (Z.E _ C tk) (plainIx_ok h)
      · exact re_bad
  · split
    · rename_i h
      exact re_attr C.cls (Z.E _ C tk) (abase_no h)
    · exact re_bad
  · exact Z.F _ _ _ _ C tk
  · split
    · rename_i h
      refine callM_ok C tk (Z.E _ C tk) ?_ (fun e => by subst e; rfl) h
      split
      · exact ra_nil
      · exact Z.A _ C tk
    · exact re_bad
  · split
    · rename_i h
      subst h
      exact Z.L _ _ _ _ _ _ C tk
    · exact re_bad
  · exact re_bad
theorem cC_ok (Z : Snd G N n) (a : Expr) (ops : List CmpOp) (cs : List Expr) (pos : Pos) (C : CtxOk G N sc X) (tk : Takes X W) : RE X W (.Compare a ops cs pos) (cC G N (n + 1) sc a ops cs) ∧ RT X W (.Compare a ops cs pos) (mTest (cC G N (n + 1) sc a ops cs)) := by
  unfold cC
  split
  · exact ⟨re_isN (Z.E _ C tk), rt_isN (Z.E _ C tk)⟩
  · exact ⟨re_notN (Z.E _ C tk), rt_notN (Z.E _ C tk)⟩
  · split
    · rename_i p hp
      obtain ⟨r, h1, h2⟩ := cmpP_ok C hp
      split
      · exact ⟨re_bad, testbad⟩
      · rename_i hs
        have hs' := behind_no (op := by assumption) (Bool.not_eq_true _ ▸ hs)
        exact ⟨re_cmpR h1 h2 (Z.E _ C tk) (Z.E _ C tk) (behind_no (by simpa using hs)), rt_cmpR h1 h2 (Z.E _ C tk) (Z.E _ C tk) (behind_no (by simpa using hs))⟩
    · exact ⟨re_bad, testbad⟩
  · split
    · rename_i p p' hp hp'
      obtain ⟨r, h1, h2⟩ := cmpP_ok C hp
      obtain ⟨r', h1', h2'⟩ := cmpP_ok C hp'
      split
      · exact ⟨re_bad, testbad⟩
      · rename_i hs
        exact ⟨re_chain h1 h1' h2 h2' (Z.E _ C tk) (Z.E _ C tk) (Z.E _ C tk) (marks_no (by simpa using hs)), rt_chain h1 h1' h2 h2' (Z.E _ C tk) (Z.E _ C tk) (Z.E _ C tk) (marks_no (by simpa using hs))⟩
    · exact ⟨re_bad, testbad⟩
  · exact ⟨re_bad, testbad⟩
theorem cB_ok (Z : Snd G N n) (op : BoolOp) (vs : List Expr) (pos : Pos) (C : CtxOk G N sc X) (tk : Takes X W) : RW X W (.BoolOp op vs pos) (cT G N (n + 1) sc (.BoolOp op vs pos)) := by
  cases vs with
  | nil => cases op <;> exact rw_bad
  | cons a r =>
    cases op with
    | And =>
      cases r with
      | nil => exact rw_one (Z.T _ C tk)
      | cons b r' => exact rw_and (Z.T _ C tk) (Z.B _ _ _ C tk)
    | Or =>
      cases r with
      | nil => exact rw_one (Z.T _ C tk)
      | cons b r' => exact rw_or (Z.T _ C tk) (Z.B _ _ _ C tk)
theorem cT_ok (Z : Snd G N n) (e : Expr) (C : CtxOk G N sc X) (tk : Takes X W) : RT X W e (cT G N (n + 1) sc e) := by
  by_cases hb : ∃ op vs pos, e = .BoolOp op vs pos
  · obtain ⟨op, vs, pos, rfl⟩ := hb
    exact (cB_ok Z op vs pos C tk).pt
  unfold cT
  split
  · exact rt_not (Z.T _ C tk)
  · exact absurd ⟨_, _, _, rfl⟩ hb
  · exact absurd ⟨_, _, _, rfl⟩ hb
  · exact rt_ifE (Z.T _ C tk) (Z.T _ C tk) (Z.T _ C tk)
  · exact absurd ⟨_, _, _, rfl⟩ hb
  · exact (Z.C _ _ _ _ C tk).2
  · rename_i h1 h2 h3 h4 h5 h6
    refine rt_val (Z.E _ C tk) fun whole => ?_
    cases e with
    | UnaryOp op a pos => cases op <;> first | rfl | exact absurd rfl (h1 _ _)
    | BoolOp op vs pos => exact absurd ⟨_, _, _, rfl⟩ hb
    | IfExp c a b pos => exact absurd rfl (h4 _ _ _ _)
    | Compare a ops cs pos => exact absurd rfl (h6 _ _ _ _)
    | _ => rfl
theorem cA_ok (Z : Snd G N n) (es : List Expr) (C : CtxOk G N sc X) (tk : Takes X W) : RA X W es (cA G N (n + 1) sc es) := by
  unfold cA
  split
  · exact ra_nil
  · exact ra_star (Z.E _ C tk) (Z.A _ C tk) rfl
  · rename_i e r h
    refine ra_cons (Z.E _ C tk) (Z.A _ C tk) (star_plain ?_)
    cases e <;> first | rfl | (exact absurd rfl (h _ _))
theorem cO_ok (Z : Snd G N n) (e : Option Expr) (C : CtxOk G N sc X) (tk : Takes X W) : RO X W e (cO G N (n + 1) sc e) := by
  unfold cO
  split
  · exact ro_none
  · exact ro_some (Z.E _ C tk)
theorem tyBlt_ok {x : Str} {T : String} (h : tyBlt.find? (fun n => decide (x = Str.ofString n)) = some T) : bootBuiltins x = some (.type T) := by
  have h1 := List.find?_some h
  have h2 := List.mem_of_find?_eq_some h
  have h3 : x = Str.ofString T := of_decide_eq_true h1
  subst h3
  simp only [tyBlt, List.mem_cons, List.not_mem_nil, or_false] at h2
  rcases h2 with rfl | rfl | rfl | rfl | rfl | rfl
  · exact Boot.«int»
  · exact Boot.«bool»
  · exact Boot.«str»
  · exact Boot.«tuple»
  · exact Boot.«list»
  · exact Boot.«dict»
theorem tyName_ok (C : CtxOk G N sc X) {c : Str} {t : TyN} (hk : okN c = true) (hg : glB sc c = true) (h : tyName G c = some t) {pos : Pos} : ∃ (vc : V) (cv : Value), t.val X.mg = some cv ∧ PE X (.Name c pos) (tC vc) ∧ ∀ u, RelV vc u → u = cv := by
  obtain ⟨k1, k2, k3⟩ := okN_of hk
  unfold tyName at h
  split at h
  · rename_i ho
    cases h
    obtain ⟨Cl, e⟩ := C.st.own c ho
    exact ⟨.ref Cl, .ref Cl, e, pe_glob (gl_of C hg) e rfl k1, fun u r => r⟩
  · split at h
    · rename_i hb
      cases e : tyBlt.find? (fun n => decide (c = Str.ofString n)) with
      | none => rw [e] at h; cases h
      | some T =>
        rw [e] at h
        cases h
        exact ⟨.ty T, .type T, rfl, ⟨fun pins s σ H Q I q => ld_blt I (gl_of C hg) (C.st.blt c hb) (tyBlt_ok e) ⟨.ty T, H, I, rfl, q⟩ k3 k1⟩, fun u r => r⟩
    · cases h
theorem cF_ok (Z : Snd G N n) (x : Str) (args : List Expr) (p pos : Pos) (C : CtxOk G N sc X) (tk : Takes X W) : RE X W (.Call (.Name x p) args [] pos) (cF G N (n + 1) sc x args) := by
  unfold cF
  split
  · rename_i h
    simp only [Bool.and_eq_true] at h
    obtain ⟨⟨h1, h2⟩, h3⟩ := h
    obtain ⟨k1, k2, k3⟩ := okN_of h1
    have hg := gl_of C h2
    split
    · rename_i hx
      subst hx
      split
      · rename_i e c pc
        split
        · rename_i hc
          simp only [Bool.and_eq_true] at hc
          obtain ⟨⟨c1, c2⟩, c3⟩ := hc
          split
          · rename_i t ht
            obtain ⟨vc, cv, e1, e2, e3⟩ := tyName_ok C c2 c3 ht
            obtain ⟨s1, s2⟩ := noStar_cons h3
            exact re_isi C.isi e1 hg (C.st.blt _ c1) (Z.E _ C tk) e2 e3 (star_plain s1) (star_plain (noStar_cons s2).1)
          · exact re_bad
        · exact re_bad
      · exact re_bad
    · split
      · rename_i dd g hf
        obtain ⟨f, m, e1, e2, F⟩ := C.st.fn _ _ _ _ hf
        cases args with
        | nil => exact re_callF0 (F.toX C.rm) tk hg e1 e2 k1
        | cons e es => exact re_callF (F.toX C.rm) tk hg e1 e2 (Z.A _ C tk) k1 (args1 h3) (argsT h3)
      · split
        · rename_i dd g hf
          split
          · exact re_bad
          · rename_i hne
            cases args with
            | nil => exact absurd rfl hne
            | cons e es =>
              obtain ⟨Cl, f, m, e1, e2, F⟩ := C.st.mke _ _ _ _ hf
              exact re_make ⟨e1, f, m, e2, F.toX C.rm⟩ tk hg (Z.A _ C tk) k1 (args1 h3) (argsT h3)
        · split
          · rename_i hb
            have hm := C.st.blt _ hb
            have gen : ∀ p', bltP x = some p' → ∀ e es, args = e :: es → RE X W (.Call (.Name x p) args [] pos) (mCallB p' (cA G N n sc args)) := fun p' hp e es he => by
              subst he
              rcases bltP_ok C hp with ⟨id, r, q1, q2, q3⟩ | ⟨T, r, q1, q2, q3⟩
              · exact re_callB q1 q2 hg hm q3 (Z.A _ C tk) k3 k1 (args1 h3) (argsT h3)
              · exact re_callTy q1 q2 hg hm q3 (Z.A _ C tk) k3 k1 (args1 h3) (argsT h3)
            split
            · rename_i y py e ps
              split
              · rename_i hxy
                obtain ⟨rfl, rfl⟩ := hxy
                split
                · rename_i hy
                  simp only [Bool.and_eq_true, Bool.not_eq_true'] at hy
                  obtain ⟨⟨⟨y1, y2⟩, y3⟩, y4⟩ := hy
                  exact re_sortSet C.calm C.units (gl_of C y3) (C.st.blt _ y1) hg hm (Z.A _ C tk) (star_plain y4)
                · exact re_bad
              · split
                · rename_i p' hp
                  exact gen p' hp _ _ rfl
                · exact re_bad
            · exact re_bad
            · rename_i hn1 hn2
              split
              · rename_i p' hp
                cases args with
                | nil => exact absurd rfl hn2
                | cons e es => exact gen p' hp _ _ rfl
              · exact re_bad
          · exact re_bad
  · exact re_bad
/-! ### targets, blocks -/
theorem cGs_ok (C : CtxOk G N sc X) (ws : WS W) {ixs : List Nat} (hix : ∀ x i, locB sc x = true → ixOf x N = some i → i ∈ ixs) : ∀ es : List Expr, RGs X W es ixs (cGs G N sc es)
  | [] => rgs_nil
  | e :: r => by
    have bad : RGs X W (e :: r) ixs (fun _ _ _ => .bad) := ⟨fun _ _ _ _ _ _ _ _ _ ⟨_, _, _, _, _, _, _, q⟩ => q.elim⟩
    have ih := cGs_ok C ws hix r
    cases e with
    | Name x p =>
      unfold cGs
      split
      · rename_i i h1 h2
        obtain ⟨l1, l2⟩ := loc_of C h1
        exact rgs_cons ws (rg_name (by rw [C.nn]; exact C.nd) (by rw [C.nn]; exact ixOf_ok h2) l1 l2 (hix _ i h1 h2)) ih rfl
      · exact bad
    | Attribute o f p =>
      cases o with
      | Name x q => exact rgs_cons ws (rg_fld C.cls (cName_ok C)) ih rfl
      | _ => exact bad
    | _ => exact bad
theorem asg_names : ∀ {es : List Expr} {env : Env}, okTs es = true → (assignEach es env).length = es.length ∧ (assignEach es env).findIdx? (·.1) = none
  | [], _, _ => ⟨rfl, rfl⟩
  | e :: r, env, h => by
    cases e with
    | Name x p =>
      obtain ⟨h1, h2⟩ := asg_names (es := r) (env := env) h
      refine ⟨?_, ?_⟩
      · show ((false, _) :: assignEach r env).length = _
        simp [h1]
      · show ((false, assign (.Name x p) env) :: assignEach r env).findIdx? (·.1) = none
        rw [List.findIdx?_cons]
        simp [h2]
    | Attribute o f p =>
      obtain ⟨h1, h2⟩ := asg_names (es := r) (env := env) h
      refine ⟨?_, ?_⟩
      · show ((false, _) :: assignEach r env).length = _
        simp [h1]
      · show ((false, assign (.Attribute o f p) env) :: assignEach r env).findIdx? (·.1) = none
        rw [List.findIdx?_cons]
        simp [h2]
    | _ => exact absurd h Bool.false_ne_true
theorem cG_ok (C : CtxOk G N sc X) (ws : WS W) {ixs : List Nat} (hix : ∀ x i, locB sc x = true → ixOf x N = some i → i ∈ ixs) (e : Expr) : RG X W e ixs (cG G N sc e) := by
  have bad : RG X W e ixs (fun _ _ _ => .bad) := ⟨fun _ _ _ _ _ _ _ _ _ ⟨_, _, _, _, _, _, _, q⟩ => q.elim⟩
  cases e with
  | Name x p =>
    dsimp only [cG]
    split
    · rename_i i h1 h2
      obtain ⟨l1, l2⟩ := loc_of C h1
      exact rg_name (by rw [C.nn]; exact C.nd) (by rw [C.nn]; exact ixOf_ok h2) l1 l2 (hix x i h1 h2)
    · exact bad
  | Tuple es k p =>
    dsimp only [cG]
    split
    · rename_i h2
      obtain ⟨a1, a2⟩ := asg_names (env := X.env) h2
      exact rg_tup C.calm (cGs_ok C ws hix es) a1 a2
    · exact bad
  | _ => exact bad
theorem relab {names : List (Str × NameKind)} {f : Str → NameKind → NameKind} {x : Str} {k : NameKind} : names.lookup x = some k → (names.map fun y => (y.1, f y.1 y.2)).lookup x = some (f x k) := by
  induction names with
  | nil => intro h; cases h
  | cons y r ih =>
    obtain ⟨n, j⟩ := y
    intro h
    rw [List.map_cons, List.lookup_cons]
    rw [List.lookup_cons] at h
    cases hx : x == n with
    | true =>
      rw [hx] at h
      have : x = n := by simpa using hx
      subst this
      cases h
      rfl
    | false =>
      rw [hx] at h
      exact ih h
theorem relab_ok {scope : Scope} {env : Env} : ScR scope (relabel scope env) := by
  have key : ∀ x k, scope.names.lookup x = some k → (relabel scope env).names.lookup x = some (if (k == NameKind.free && env.scope.kind == .function && env.kindOf x == some .cell) = true then .cell else k) := fun x k h => by
    have e : (relabel scope env).names = scope.names.map fun y => (y.1, (fun (n : Str) (k : NameKind) => if (k == NameKind.free && env.scope.kind == .function && env.kindOf n == some .cell) = true then NameKind.cell else k) y.1 y.2) := by
      show (scope.names.map _) = _
      refine List.map_congr_left fun y _ => ?_
      obtain ⟨n, j⟩ := y
      dsimp only
      split <;> rfl
    rw [e]
    exact relab (f := fun (n : Str) (k : NameKind) => if (k == NameKind.free && env.scope.kind == .function && env.kindOf n == some .cell) = true then NameKind.cell else k) h
  refine ⟨fun x h => ?_, fun x h => ?_, fun x h => ?_, fun x h => ?_⟩
  · exact key x _ h
  · rcases h with h | h
    · exact .inl (key x _ h)
    · rw [key x _ h]
      split
      · exact .inl rfl
      · exact .inr rfl
  · exact key x _ h
  · exact key x _ h
theorem ixOf_mem {x : Str} : ∀ {N : List Str}, ixOf x N = none → x ∉ N
  | [], _ => by simp
  | y :: r, h => by
    unfold ixOf at h
    split at h
    · cases h
    · rename_i hne
      cases h' : ixOf x r with
      | some j => rw [h'] at h; cases h
      | none =>
        have := ixOf_mem h'
        simp only [List.mem_cons, not_or]
        exact ⟨fun e => hne e.symm, this⟩
theorem own_ix : ∀ {l : List (Str × NameKind)} {p : Str × Nat}, p ∈ ownOf N l → N[p.2]? = some p.1
  | [], _, h => by cases h
  | (x, k) :: r, p, h => by
    unfold ownOf at h
    split at h
    · rename_i i e
      rcases List.mem_cons.mp h with rfl | h
      · exact ixOf_ok e
      · exact own_ix h
    · rename_i i e
      rcases List.mem_cons.mp h with rfl | h
      · exact ixOf_ok e
      · exact own_ix h
    · exact own_ix h
theorem own_has : ∀ {l : List (Str × NameKind)} {x : Str} {k : NameKind} {i : Nat}, (x, k) ∈ l → (k = .local ∨ k = .cell) → ixOf x N = some i → (x, i) ∈ ownOf N l
  | [], _, _, _, h, _, _ => by cases h
  | (y, j) :: r, x, k, i, h, hk, hi => by
    unfold ownOf
    rcases List.mem_cons.mp h with e | h
    · cases e
      rcases hk with rfl | rfl <;> rw [hi] <;> exact List.mem_cons_self
    · have := own_has h hk hi
      split
      · exact List.mem_cons_of_mem _ this
      · exact List.mem_cons_of_mem _ this
      · exact this
theorem blk_ok (C : CtxOk G N sc X) {scope : Scope} (h : blkB sc scope = true) : BlkOk X.N X.env.scope scope (ownOf N scope.names) := by
  unfold blkB at h
  simp only [Bool.and_eq_true, List.all_eq_true, beq_iff_eq, Bool.or_eq_true, Bool.not_eq_true', beq_eq_false_iff_ne, ne_eq] at h
  obtain ⟨⟨h1, h2⟩, h3⟩ := h
  refine ⟨h1, h2, fun p hp => by rw [C.nn]; exact own_ix hp, fun y hy e => ?_, fun y hy e => ?_⟩
  · rcases h3 y hy with (k | k) | k
    · exact absurd e k
    · exact C.sc.cf _ (.inl k)
    · exact C.sc.cf _ (.inr k)
  · rw [C.nn]
    cases hi : ixOf y.1 N with
    | none => exact .inr (ixOf_mem hi)
    | some i => exact .inl (List.mem_map.mpr ⟨_, own_has (show (y.1, y.2) ∈ _ from hy) e hi, rfl⟩)
theorem blk_ctx (C : CtxOk G N sc X) {scope : Scope} {s : Shared} {H : Hp} {Cl : Addr} {cl : List (Str × Addr)} {fp : List Addr} : CtxOk G N scope (BX X s H scope Cl cl fp) where
  st := C.st
  rm := C.rm
  nn := C.nn
  fnc := fun x h => by show (scope.names.lookup x == some .cell) = true; rw [h]; rfl
  nd := C.nd
  sc := relab_ok
  calm := C.calm
theorem own_slot {scope : Scope} {x : Str} {i : Nat} (h : locB scope x = true) (hi : ixOf x N = some i) : i ∈ (ownOf N scope.names).map (·.2) := by
  unfold locB at h
  split at h
  · rename_i e; exact List.mem_map.mpr ⟨_, own_has (PySem.mem_of_lookup e) (.inl rfl) hi, rfl⟩
  · rename_i e; exact List.mem_map.mpr ⟨_, own_has (PySem.mem_of_lookup e) (.inr rfl) hi, rfl⟩
  · cases h
theorem wsF : WS WF := fun _ _ _ _ _ h => h
theorem cL_ok (Z : Snd G N n) (elt tgt iter : Expr) (ifs : List Expr) (scope : Scope) (pos : Pos) (C : CtxOk G N sc X) (tk : Takes X W) : RE X W (.ListComp elt [⟨tgt, iter, ifs, 0⟩] scope pos) (cL G N (n + 1) sc elt tgt iter ifs scope) := by
  unfold cL
  split
  · rename_i h
    simp only [Bool.and_eq_true, Bool.not_eq_true'] at h
    obtain ⟨h1, h2⟩ := h
    split
    · exact re_lc C.calm (by rw [C.nn]; exact C.nd) (Z.I _ _ C tk) (blk_ok C h1) (fun s H Cl cl fp => cG_ok (blk_ctx C) wsF (fun x i => own_slot) _) (fun s H Cl cl fp => rts_nil) (fun s H Cl cl fp => Z.E _ (blk_ctx C) takes_none5) (fold_no h2)
    · exact re_lc C.calm (by rw [C.nn]; exact C.nd) (Z.I _ _ C tk) (blk_ok C h1) (fun s H Cl cl fp => cG_ok (blk_ctx C) wsF (fun x i => own_slot) _) (fun s H Cl cl fp => rts_one (Z.T _ (blk_ctx C) takes_none5)) (fun s H Cl cl fp => Z.E _ (blk_ctx C) takes_none5) (fold_no h2)
    · exact re_bad
  · exact re_bad
theorem cI_ok (Z : Snd G N n) (tg e : Expr) (C : CtxOk G N sc X) (tk : Takes X W) : RI X W tg e (cI G N (n + 1) sc tg e) := by
  unfold cI
  split
  · split
    · rename_i h
      obtain ⟨rfl, h1, h2, h3⟩ := h
      exact ri_range1 (gl_of C h2) (C.st.blt _ h1) (Z.A _ C tk) (star_plain h3)
    · split
      · rename_i h
        obtain ⟨rfl, h1, h2, h3⟩ := h
        split
        · exact ri_enum (gl_of C h2) (C.st.blt _ h1) (Z.A _ C tk) (star_plain h3)
        · exact ri_bad
      · exact ri_seq (Z.E _ C tk)
  · split
    · rename_i h
      obtain ⟨rfl, h1, h2, h3, h4⟩ := h
      exact ri_range2 (gl_of C h2) (C.st.blt _ h1) (Z.A _ C tk) (by rw [star_plain h3, star_plain h4]; rfl) (star_plain h4)
    · exact ri_seq (Z.E _ C tk)
  · exact ri_seq (Z.E _ C tk)
end
/-- the expressions mean what the compiler says -/
theorem snd {G : Cfg} {N : List Str} : ∀ n, Snd G N n
  | 0 => snd0
  | n + 1 => have Z := snd n; ⟨fun e C tk => cE_ok Z e C tk, fun a ops cs pos C tk => cC_ok Z a ops cs pos C tk, fun e C tk => cT_ok Z e C tk, fun op vs pos C tk => cB_ok Z op vs pos C tk, fun es C tk => cA_ok Z es C tk, fun e C tk => cO_ok Z e C tk,
    fun x args p pos C tk => cF_ok Z x args p pos C tk, fun tg e C tk => cI_ok Z tg e C tk, fun elt tgt iter ifs scope pos C tk => cL_ok Z elt tgt iter ifs scope pos C tk⟩
end KN
set_option maxHeartbeats 200000
namespace KN
open PySem PySem.Spec PyProof.Rows L2
/-! ### the compiler: statements -/
/-- an exception class of the text -/
structure ExS (P : Program) (w : World) (K : PySem.W.Frag) (mg : Str → Option Value) (base : Heap) (top : Nat) (C : Addr) (fl : List Str) : Prop where
  oex : OexC K C
  xf : XfC K C
  fno : ∀ f ∈ fl, PySem.W.findIn K (.ref C) f = some none
  run : ∃ fI fd ps k, PySem.W.findIn K (.ref C) "__init__" = some (some (.ref fI)) ∧ PySem.W.typeIn K (.ref fI) = some (.type "function") ∧ ps.length = fl.length + 1 ∧ Binds K fd ps [] ∧ k + 1 ≤ top ∧
    FnOk P w K mg base (L2.CX P w) k fI fd ps (spEi K C ps (tFlds K 1 fl))
structure StatX (G : Cfg) (P : Program) (w : World) (K : PySem.W.Frag) (mg : Str → Option Value) (base : Heap) : Prop where
  ex : ∀ c fl, G.ex c = some fl → ∃ C, mg c = some (.ref C) ∧ (fl ≠ [] → ExS P w K mg base G.top C fl)
structure SCtx (G : Cfg) (N : List Str) (sc : Scope) (X : Cx) : Prop where
  ok : CtxOk G N sc X
  sx : StatX G X.prog X.w X.K X.mg X.base
  stk : X.stack = X.env :: X.outer
  frm : X.env.frame = some X.env.locals
  pas : PassesOwn (model X.prog X.w) X.A X.env X.xe
  kind : X.env.scope.kind = .function
/-- an expression of a suite whose clause is for class x, named n -/
def cSE (G : Cfg) (x : Str) (on : Option Str) : Expr → Option SE
  | .Constant (.str z) _ _ => some (.cst (.str z))
  | .Constant (.int z) _ _ => some (.cst (.int z))
  | .Constant (.bool z) _ _ => some (.cst (.bl z))
  | .Attribute (.Name n _) f _ => match on, G.ex x with
    | some m, some fl => if n = m ∧ fl.contains f = true ∧ okN n = true then some (.fld f) else none
    | _, _ => none
  | _ => none
def cSEs (G : Cfg) (x : Str) (on : Option Str) : List Expr → Option (List SE)
  | [] => some []
  | e :: r => match cSE G x on e, cSEs G x on r with
    | some a, some b => some (a :: b)
    | _, _ => none
def lOnly (sc : Scope) (x : Str) : Bool := sc.names.lookup x == some .local
def cSu (G : Cfg) (N : List Str) (sc : Scope) (x : Str) (on : Option Str) : List Stmt → Option Su
  | [.Assign [.Name y _] e _] => match lOnly sc y, ixOf y N with
    | true, some j => match e with
      | .Tuple es _ _ => if on.isSome = true ∧ noStar es = true then (cSEs G x on es).map (.tup j) else none
      | e => (cSE G x on e).bind fun se => match on, se with
        | some _, se => some (.one j se)
        | none, .cst d => some (.one j (.cst d))
        | none, _ => none
    | _, _ => none
  | _ => none
def cHs (G : Cfg) (N : List Str) (sc : Scope) : List ExceptHandler → Option (List (Str × Option Nat × Su))
  | [] => some []
  | .ExceptHandler (some (.Name x _)) on suite _ :: r => if (okN x && glB sc x && (G.ex x).isSome) = true then
      match cSu G N sc x on suite, cHs G N sc r with
      | some su, some l => match on with
        | none => some ((x, none, su) :: l)
        | some n => match lOnly sc n, ixOf n N with
          | true, some i => some ((x, some i, su) :: l)
          | _, _ => none
      | _, _ => none
    else none
  | _ => none
/-! a, b = x, y -/
def parB (px py : Pos) (a b : Expr) : Bool := py.line == px.line && (!isStar a && (!isStar b && (!(foldedForSure 8 a && foldedForSure 8 b) && !(constantsAlone 8 a && constantsAlone 8 b))))
theorem par_sw {x y : Str} {px py pt : Pos} {kt k2 : Nat} {pt2 : Pos} {a b : Expr} {env : Env} (hk : env.blockKind = .function) (hx : env.kindOf x = some .local) (hy : env.kindOf y = some .local) (hne : x ≠ y) (h : parB px py a b = true) :
    swappedStores [.Tuple [.Name x px, .Name y py] kt pt] (.Tuple [a, b] k2 pt2) env = pure (some [x, y]) := by
  unfold parB at h
  simp only [Bool.and_eq_true, Bool.not_eq_true', beq_iff_eq] at h
  obtain ⟨h1, h2, h3, h4, h5⟩ := h
  unfold swappedStores
  have ne : (y == x) = false := by simpa using Ne.symm hne
  simp [hk, hx, hy, h1, Expr.pos, h4, h5, List.eraseDups_cons]
  rw [if_neg, if_pos]
  · simp [List.filter, ne, List.eraseDups_cons]
  · rintro (h | h)
    · cases a <;> first | (cases h; done) | (cases h2; done)
    · cases b <;> first | (cases h; done) | (cases h3; done)
section
variable (G : Cfg) (N : List Str) (lim : Nat)
mutual
def cS : Nat → Bool → Scope → Stmt → SM
  | 0, _, _, _ => mBadS
  | n + 1, b, sc, st => match st with
    | .Pass _ => mNext
    | .Expr e _ => if isCmp e = true then mBadS else mExp (cE G N n sc e)
    | .Return none _ => mRetN
    | .Return (some e) _ => mRet (cE G N n sc e)
    | .If c x y _ => mIfS (cT G N n sc c) (cSs n b sc x) (cSs n b sc y)
    | .Assign [tg] e pos => match tg with
      | .Name x px => match locB sc x, ixOf x N with
        | true, some i => match e with
          | .SetComp .. => mBadS
          | .DictComp .. => mBadS
          | e => mSet i (cE G N n sc e)
        | _, _ => mBadS
      | .Attribute o f _ => if isCmp e = true then mBadS else mFld G.fl f (cE G N n sc e) (cE G N n sc o)
      | .Subscript o i _ => if isCmp e = true then mBadS else mSetIx (cE G N n sc e) (cE G N n sc o) (cE G N n sc i)
      | .Tuple ts _ _ => match e with
        | .Tuple es _ _ => match ts, es with
          | [.Name x px, .Name y py], [u, v] => match lOnly sc x, lOnly sc y, ixOf x N, ixOf y N with
            | true, true, some i, some j => if parB px py u v = true ∧ i ≠ j ∧ noStar [u, v] = true then mPar i j (cA G N n sc [u, v]) else mBadS
            | _, _, _, _ => mBadS
          | _, _ => mBadS
        | e => if (isCmp e || !b) = true then mBadS else mAsg (cE G N n sc e) (cG G N sc tg)
      | _ => mBadS
    | .AugAssign tg .Add e _ => match tg with
      | .Name x _ => match locB sc x, ixOf x N with
        | true, some i => mAug i (cE G N n sc e)
        | _, _ => mBadS
      | .Attribute o f _ => mAugF G.fl f (cE G N n sc o) (cE G N n sc e)
      | _ => mBadS
    | .Delete [.Subscript o i _] _ => mDelIx (cE G N n sc o) (cE G N n sc i)
    | .For tg it body [] _ => if (!b || isSetD it) = true then mBadS else mFor (cI G N n sc tg it) (cG G N sc tg) (cSs n b sc body)
    | .While c body [] _ => if b = true then mWhile (cT G N n sc c) (cSs n b sc body) lim else mBadS
    | .Raise (some (.Call (.Name c _) args [] _)) none _ => match args, G.ex c with
      | a :: r, some fl => if (okN c && glB sc c && noStar (a :: r) && (fl.length == 1 || fl.length == 2)) = true then mRaise c fl (cA G N n sc (a :: r)) else mBadS
      | _, _ => mBadS
    | .Try body (h :: hs) [] [] _ => match cHs G N sc (h :: hs) with
      | some l => mTry G.isx (cSs n false sc body) l
      | none => mBadS
    | _ => mBadS
def cSs : Nat → Bool → Scope → List Stmt → SM
  | 0, _, _, _ => mBadS
  | n + 1, b, sc, sts => match sts with
    | [] => mNext
    | [st] => cS n b sc st
    | st :: r => if b = true then mSeq (cS n b sc st) (cSs n b sc r) else mBadS
end
end
end KN
set_option maxHeartbeats 200000
namespace KN
open PySem PySem.Spec PyProof.Rows L2
structure SndS (G : Cfg) (N : List Str) (lim n : Nat) : Prop where
  S : ∀ {sc : Scope} {X : Cx} {W : WX} (b : Bool) (st : Stmt), SCtx G N sc X → Takes X W → (b = true → WS W) → RS X W st (cS G N lim n b sc st)
  Ss : ∀ {sc : Scope} {X : Cx} {W : WX} (b : Bool) (st : List Stmt), SCtx G N sc X → Takes X W → (b = true → WS W) → RSs X W st (cSs G N lim n b sc st)
section
variable {G : Cfg} {N : List Str} {sc : Scope} {X : Cx} {W : WX} {lim n : Nat} {b : Bool}
theorem rss_bad {st : List Stmt} : RSs X W st mBadS := ⟨fun _ _ _ _ _ _ ⟨_, _, _, _, _, q⟩ => q.elim⟩
theorem cSs_ok (Z : SndS G N lim n) (st : List Stmt) (C : SCtx G N sc X) (tk : Takes X W) (ws : b = true → WS W) : RSs X W st (cSs G N lim (n + 1) b sc st) := by
  unfold cSs
  split
  · exact rss_nil
  · exact rss_one (Z.S b _ C tk ws)
  · split
    · rename_i h
      exact rss_cons (ws h) (Z.S b _ C tk ws) (Z.Ss b _ C tk ws)
    · exact rss_bad
theorem ixsAll {x : Str} {i : Nat} (h : ixOf x N = some i) : i ∈ List.range N.length := by
  rw [List.mem_range]
  exact (List.getElem?_eq_some_iff.mp (ixOf_ok h)).1
theorem setLc_ok (C : SCtx G N sc X) (tk : Takes X W) {x : Str} {i : Nat} {px pos cpos : Pos} {elt : Expr} {gs : List Comprehension} {scope : Scope} (h1 : locB sc x = true) (h2 : ixOf x N = some i) :
    RS X W (.Assign [.Name x px] (.ListComp elt gs scope cpos) pos) (mSet i (cE G N n sc (.ListComp elt gs scope cpos))) := by
  obtain ⟨l1, l2⟩ := loc_of C.ok h1
  have plain : swapsWith (.ListComp elt gs scope cpos) (some (.Name x px)) pos.line X.env = pure false → RS X W (.Assign [.Name x px] (.ListComp elt gs scope cpos) pos) (mSet i (cE G N n sc (.ListComp elt gs scope cpos))) := fun hs =>
    rs_set (by rw [C.ok.nn]; exact C.ok.nd) (by rw [C.ok.nn]; exact ixOf_ok h2) l1 ((snd n).E _ C.ok tk) hs l2
  have hsw : ∃ k, swapsWith (.ListComp elt gs scope cpos) (some (.Name x px)) pos.line X.env = pure k ∧ (k = true → X.env.kindOf x = some .local) := ⟨_, rfl, fun h => by
    simp only [Bool.and_eq_true, beq_iff_eq] at h
    exact h.1.1.2⟩
  obtain ⟨k, hk, hl⟩ := hsw
  cases k with
  | false => exact plain hk
  | true =>
    have hy : X.env.scope.names.lookup x = some .local := hl rfl
    have bad : RS X W (.Assign [.Name x px] (.ListComp elt gs scope cpos) pos) (mSet i bE) := ⟨fun _ _ _ _ _ _ ⟨_, _, _, _, _, q⟩ => q.elim⟩
    cases n with
    | zero => exact bad
    | succ n =>
      unfold cE
      match gs with
      | [] => exact bad
      | ⟨_, _, _, _⟩ :: _ :: _ => exact bad
      | [⟨tgt, iter, ifs, z⟩] =>
        dsimp only
        split
        · rename_i hz
          subst hz
          cases n with
          | zero => exact bad
          | succ n =>
            unfold cL
            split
            · rename_i h
              simp only [Bool.and_eq_true, Bool.not_eq_true'] at h
              obtain ⟨b1, b2⟩ := h
              split
              · exact rs_setLc C.ok.calm (by rw [C.ok.nn]; exact C.ok.nd) (by rw [C.ok.nn]; exact ixOf_ok h2) hy hk ((snd n).I _ _ C.ok tk) (blk_ok C.ok b1) (fun s H Cl cl fp => cG_ok (blk_ctx C.ok) wsF (fun x i => own_slot) _) (fun s H Cl cl fp => rts_nil) (fun s H Cl cl fp => (snd n).E _ (blk_ctx C.ok) takes_none5) (fold_no b2)
              · exact rs_setLc C.ok.calm (by rw [C.ok.nn]; exact C.ok.nd) (by rw [C.ok.nn]; exact ixOf_ok h2) hy hk ((snd n).I _ _ C.ok tk) (blk_ok C.ok b1) (fun s H Cl cl fp => cG_ok (blk_ctx C.ok) wsF (fun x i => own_slot) _) (fun s H Cl cl fp => rts_one ((snd n).T _ (blk_ctx C.ok) takes_none5)) (fun s H Cl cl fp => (snd n).E _ (blk_ctx C.ok) takes_none5) (fold_no b2)
              · exact bad
            · exact bad
        · exact bad
theorem swapped_no {tg e : Expr} {env : Env} (h : ∀ a b c, e ≠ .Tuple a b c) : swappedStores [tg] e env = pure none := by
  cases tg <;> cases e <;> first | rfl | exact absurd rfl (h _ _ _)
theorem tr_ctx (C : SCtx G N sc X) (pn : List (Addr × Obj)) (xe : Value → Shared → Prop) (hp : PassesOwn (model X.prog X.w) X.A X.env xe) : SCtx G N sc (X.tr pn xe) :=
  ⟨⟨C.ok.st, C.ok.rm, C.ok.nn, C.ok.fnc, C.ok.nd, C.ok.sc, C.ok.calm⟩, C.sx, C.stk, C.frm, hp, C.kind⟩
theorem ExS.toX {X : Cx} {top : Nat} {C : Addr} {c : Str} {fl : List Str} (F : ExS X.prog X.w X.K X.mg X.base top C fl) (hm : X.mg c = some (.ref C)) (r : Room top X.A) : ExcX X c C fl := by
  obtain ⟨fI, fd, ps, k, h1, h2, h3, h4, h5, h6⟩ := F.run
  exact ⟨hm, F.oex, F.fno, fI, fd, ps, k, h1, h2, h3, h4, r.mono h5, h6⟩
theorem cSE_ok (C : SCtx G N sc X) {x : Str} {on : Option Str} {e : Expr} {se : SE} (h : cSE G x on e = some se) {i : Nat} (hn : ∀ n, on = some n → lOnly sc n = true ∧ ixOf n N = some i) : SEx X i x e se := by
  unfold cSE at h
  split at h
  · cases h; exact se_str
  · cases h; exact se_int
  · cases h; exact se_bl
  · rename_i n p f pos
    split at h
    · rename_i m fl e2
      split at h
      · rename_i hc
        obtain ⟨rfl, hf, hk⟩ := hc
        cases h
        obtain ⟨k1, k2, _⟩ := okN_of hk
        obtain ⟨l1, l2⟩ := hn n rfl
        obtain ⟨Cl, hm, F⟩ := C.sx.ex x fl e2
        have hmem : f ∈ fl := by simpa using hf
        have F' := F (by intro z; rw [z] at hmem; cases hmem)
        exact se_fld F'.xf (F'.fno f hmem) hm (by rw [C.ok.nn]; exact ixOf_ok l2) (.inl (C.ok.sc.loc n (by simpa [lOnly] using l1))) k1 k2
      · cases h
    · cases h
  · cases h
theorem cSEs_ok (C : SCtx G N sc X) {x : Str} {on : Option Str} {i : Nat} (hn : ∀ n, on = some n → lOnly sc n = true ∧ ixOf n N = some i) : ∀ {es : List Expr} {ses : List SE}, cSEs G x on es = some ses → noStar es = true → SExs X i x es ses
  | [], ses, h, _ => by cases h; exact ses_nil
  | e :: r, ses, h, hs => by
    unfold cSEs at h
    split at h
    · rename_i a b e1 e2
      cases h
      obtain ⟨s1, s2⟩ := noStar_cons hs
      exact ses_cons (cSE_ok C e1 hn) (cSEs_ok C hn e2 s2) (star_plain s1)
    · cases h
theorem cst_of {x : Str} {on : Option Str} {e : Expr} {d : DV} (h : cSE G x on e = some (.cst d)) : ∀ X' : Cx, ∃ v, PE X' e (tC v) ∧ ∀ (K : PySem.W.Frag) ρ H, RepV K ρ H d v := by
  unfold cSE at h
  split at h
  · cases h; exact fun X' => ⟨_, pe_str, fun K ρ H => by rw [RepV]⟩
  · cases h; exact fun X' => ⟨_, pe_int, fun K ρ H => by rw [RepV]⟩
  · cases h; exact fun X' => ⟨_, pe_bl, fun K ρ H => by rw [RepV]⟩
  · split at h
    · split at h
      · cases h
      · cases h
    · cases h
  · cases h
theorem notCmp_cSE {x : Str} {on : Option Str} {e : Expr} {se : SE} (h : cSE G x on e = some se) : isCmp e = false := by
  unfold cSE at h
  split at h <;> first | rfl | cases h
theorem cSu_ok (C : SCtx G N sc X) {x : Str} {on : Option Str} {suite : List Stmt} {su : Su} (h : cSu G N sc x on suite = some su) {oi : Option Nat} (hn : (on = none ∧ oi = none) ∨ ∃ n i, on = some n ∧ oi = some i ∧ lOnly sc n = true ∧ ixOf n N = some i) :
    ∃ b₀ r, suite = b₀ :: r ∧ SuX X x oi su suite := by
  have nd : X.N.Nodup := by rw [C.ok.nn]; exact C.ok.nd
  unfold cSu at h
  split at h
  · rename_i y py e pos
    refine ⟨_, _, rfl, ?_⟩
    split at h
    · rename_i j h1 h2
      have hl : X.env.scope.names.lookup y = some .local := C.ok.sc.loc y (by simpa [lOnly] using h1)
      have hj : X.N[j]? = some y := by rw [C.ok.nn]; exact ixOf_ok h2
      split at h
      · rename_i es k pt
        split at h
        · rename_i hc
          obtain ⟨c1, c2⟩ := hc
          cases e1 : cSEs G x on es with
          | none => rw [e1] at h; cases h
          | some ses =>
            rw [e1] at h
            cases h
            rcases hn with ⟨rfl, _⟩ | ⟨n, i, rfl, rfl, l1, l2⟩
            · cases c1
            · exact su_tup (cSEs_ok C (fun m e => by cases e; exact ⟨l1, l2⟩) e1 c2) nd hj (.inl hl) (swaps_no rfl) hl
        · cases h
      · rename_i e' _
        cases e1 : cSE G x on e with
        | none => rw [e1] at h; cases h
        | some se =>
          rw [e1] at h
          dsimp only [Option.bind_some] at h
          have hsw := swaps_no (t := some (.Name y py)) (l := pos.line) (env := X.env) (notCmp_cSE e1)
          rcases hn with ⟨rfl, rfl⟩ | ⟨n, i, rfl, rfl, l1, l2⟩
          · split at h
            · rename_i he; cases he
            · rename_i d he
              cases h
              have hc := cst_of e1
              exact su_cst (fun i => cSE_ok C e1 (fun m e => by cases e)) (fun X' => let ⟨v, h1, h2⟩ := hc X'; ⟨v, h1, h2 X.K⟩) nd hj (.inl hl) hsw hl
            · cases h
          · cases h
            exact su_one (cSE_ok C e1 (fun m e => by cases e; exact ⟨l1, l2⟩)) nd hj (.inl hl) hsw hl
    · cases h
  · cases h
theorem cHs_ok (C : SCtx G N sc X) : ∀ {hs : List ExceptHandler} {l : List (Str × Option Nat × Su)}, cHs G N sc hs = some l → HdsD X hs l
  | [], l, h => by cases h; exact .nil
  | .ExceptHandler t on suite pos :: r, l, h => by
    unfold cHs at h
    split at h
    · rename_i heq; cases heq
    · rename_i x px on' suite' p' r' heq
      cases heq
      split at h
      · rename_i hc
        simp only [Bool.and_eq_true] at hc
        obtain ⟨⟨c1, c2⟩, c3⟩ := hc
        split at h
        · rename_i su l' e1 e2
          have ih := cHs_ok C e2
          obtain ⟨fl, hfl⟩ := Option.isSome_iff_exists.mp c3
          obtain ⟨Cl, hm, _⟩ := C.sx.ex x fl hfl
          split at h
          · cases h
            obtain ⟨b₀, r0, rfl, hsu⟩ := cSu_ok C e1 (.inl ⟨rfl, rfl⟩)
            exact .cons (gl_of C.ok c2) (okN_of c1).1 hm (.inl ⟨rfl, rfl⟩) hsu ih
          · rename_i n
            split at h
            · rename_i i l1 l2
              cases h
              obtain ⟨b₀, r0, rfl, hsu⟩ := cSu_ok C e1 (.inr ⟨n, i, rfl, rfl, l1, l2⟩)
              exact .cons (gl_of C.ok c2) (okN_of c1).1 hm (.inr ⟨n, i, rfl, rfl, by rw [C.ok.nn]; exact ixOf_ok l2, C.ok.sc.loc n (by simpa [lOnly] using l1)⟩) hsu ih
            · cases h
        · cases h
      · cases h
    · cases h
theorem isx_ok (C : SCtx G N sc X) : IsxOk X G.isx := C.ok.st.isx
theorem cS_ok (Z : SndS G N lim n) (st : Stmt) (C : SCtx G N sc X) (tk : Takes X W) (ws : b = true → WS W) : RS X W st (cS G N lim (n + 1) b sc st) := by
  have E := fun e => (snd (G := G) (N := N) n).E (W := W) e C.ok tk
  have nd : X.N.Nodup := by rw [C.ok.nn]; exact C.ok.nd
  have hix : ∀ {x : Str} {i : Nat}, ixOf x N = some i → X.N[i]? = some x := fun h => by rw [C.ok.nn]; exact ixOf_ok h
  unfold cS
  split
  · exact rs_pass
  · split
    · exact rs_bad
    · rename_i h
      exact rs_expr (E _) (swaps_no (by simpa using h))
  · exact rs_retN
  · exact rs_ret (E _)
  · exact rs_if ((snd n).T _ C.ok tk) (Z.Ss b _ C tk ws) (Z.Ss b _ C tk ws)
  · rename_i tg e pos
    split
    · rename_i x px
      split
      · rename_i i h1 h2
        obtain ⟨l1, l2⟩ := loc_of C.ok h1
        split
        · exact rs_bad
        · exact rs_bad
        · rename_i k1 k2
          cases e with
          | ListComp elt gs scope cpos => exact setLc_ok C tk h1 h2
          | SetComp a c d f => exact absurd rfl (k1 _ _ _ _)
          | DictComp a c d f g => exact absurd rfl (k2 _ _ _ _ _)
          | _ => exact rs_set nd (hix h2) l1 (E _) rfl l2
      · exact rs_bad
    · split
      · exact rs_bad
      · rename_i h
        exact rs_fld C.ok.cls (E _) (E _) (swaps_no (by simpa using h))
    · split
      · exact rs_bad
      · rename_i h
        exact rs_setIx C.ok.units (E _) (E _) (E _) (swaps_no (by simpa using h)) (fun _ _ _ => True.intro)
    · rename_i ts k pt
      split
      · split
        · rename_i x px y py u v
          split
          · rename_i i j h1 h2 h3 h4
            split
            · rename_i hc
              have l1 : X.env.scope.names.lookup x = some .local := C.ok.sc.loc x (by simpa [lOnly] using h1)
              have l2 : X.env.scope.names.lookup y = some .local := C.ok.sc.loc y (by simpa [lOnly] using h2)
              have bk : X.env.blockKind = .function := by
                unfold Env.blockKind
                rw [C.kind]
                rfl
              exact rs_par C.ok.calm nd (hix h3) (hix h4) hc.2.1 l1 l2 ((snd n).A _ C.ok tk) (par_sw bk l1 l2 (fun e => hc.2.1 (by rw [e, h4] at h3; exact (Option.some.inj h3).symm)) hc.1) rfl
            · exact rs_bad
          · exact rs_bad
        · exact rs_bad
      · rename_i hne
        split
        · exact rs_bad
        · rename_i h
          simp only [Bool.or_eq_true, Bool.not_eq_true', not_or, Bool.not_eq_true, Bool.not_eq_false] at h
          obtain ⟨c1, c2⟩ := h
          exact rs_asg (E _) (cG_ok C.ok (ws c2) (fun x i _ hi => ixsAll hi) _) (by unfold swapsWithSole; exact swaps_no c1) (swapped_no hne) rfl
    · exact rs_bad
  · split
    · split
      · rename_i i h1 h2
        obtain ⟨l1, l2⟩ := loc_of C.ok h1
        exact rs_aug nd (hix h2) l1 (E _) l2
      · exact rs_bad
    · exact rs_augF C.ok.cls (E _) (E _)
    · exact rs_bad
  · exact rs_delIx C.ok.units (E _) (E _)
  · split
    · exact rs_bad
    · rename_i h
      simp only [Bool.or_eq_true, Bool.not_eq_true', not_or, Bool.not_eq_true, Bool.not_eq_false] at h
      obtain ⟨c1, c2⟩ := h
      exact rs_for (ws c1) C.pas C.ok.calm ((snd n).I _ _ C.ok tk) (cG_ok C.ok (ws c1) (fun x i _ hi => ixsAll hi) _) (Z.Ss b _ C tk ws) (fold_no c2)
  · split
    · rename_i h
      exact rs_while lim (ws h) C.pas ((snd n).T _ C.ok tk) (Z.Ss b _ C tk ws)
    · exact rs_bad
  · split
    · rename_i a r fl hf
      split
      · rename_i h
        simp only [Bool.and_eq_true, Bool.or_eq_true, beq_iff_eq] at h
        obtain ⟨⟨⟨h1, h2⟩, h3⟩, h4⟩ := h
        obtain ⟨Cl, hm, F⟩ := C.sx.ex _ fl hf
        have F' := F (by rintro rfl; rcases h4 with h4 | h4 <;> cases h4)
        exact rs_raise C.ok.calm tk (F'.toX hm C.ok.rm) h4 (gl_of C.ok h2) ((snd n).A _ C.ok tk) (okN_of h1).1 (args1 h3) (argsT h3)
      · exact rs_bad
    · exact rs_bad
  · split
    · rename_i l hl
      exact rs_try C.stk C.frm nd tk (isx_ok C) (fun W' pn xe tk' hp => Z.Ss false _ (tr_ctx C pn xe hp) tk' (fun h => absurd h Bool.false_ne_true)) (cHs_ok C hl)
    · exact rs_bad
  · exact rs_bad
end
theorem sndS {G : Cfg} {N : List Str} {lim : Nat} : ∀ n, SndS G N lim n
  | 0 => ⟨fun _ _ _ _ _ => rs_bad, fun _ _ _ _ _ => rss_bad⟩
  | n + 1 => have Z := sndS n; ⟨fun b st C tk ws => cS_ok Z st C tk ws, fun b st C tk ws => cSs_ok Z st C tk ws⟩
end KN
set_option maxHeartbeats 200000
namespace KN
open PySem PySem.Spec PyProof.Rows L2
/-! ### a def of the text does what the compiler says -/
def fnD (n slots : Nat) (b : SM) : DFn := fun ds S => if ds.length = n then (b (ds.map some ++ List.replicate (slots - n) none) S).bind fun r S1 => match r.1 with
  | .nx => .ok .non S1
  | .rt d => .ok d S1
  | _ => .bad else .bad
theorem fnD_ar {n slots : Nat} {b : SM} : ∀ ds S, ds.length ≠ n → fnD n slots b ds S = .bad := fun ds S h => by
  unfold fnD
  rw [if_neg h]
theorem start_grel {K : PySem.W.Frag} {ρ : List Addr} {H : Hp} {N : List Str} {ds : List DV} {vs : List V} (r : RepVs K ρ H ds vs) : GRel K ρ H (ds.map some ++ List.replicate (N.length - ds.length) none) (L2.start N vs) := by
  unfold L2.start
  have hl := r.len
  refine ⟨by simp [hl], fun i d h => ?_⟩
  by_cases hi : i < ds.length
  · rw [List.getElem?_append_left (by simpa using hi), List.getElem?_map] at h
    cases e : ds[i]? with
    | none => rw [e] at h; cases h
    | some d' =>
      rw [e] at h
      cases h
      obtain ⟨v, e2, rv⟩ := r.get e
      exact ⟨v, by rw [List.getElem?_append_left (by simpa [← hl] using hi), List.getElem?_map, e2]; rfl, rv⟩
  · rw [List.getElem?_append_right (by simpa using hi), List.getElem?_replicate] at h
    split at h <;> cases h
theorem fn_plain {G : Cfg} {P : Program} {w : World} {K : PySem.W.Frag} {mg : Str → Option Value} {base : Heap} {k lim fu : Nat} {f : Addr} {name qual : Str} {params : Arguments} {body : List Stmt} {scope : Scope} {dV kV doc pm cdv ct oc : Value} {an od : Option Addr}
    {osl : Array (Option Value)} {N ps : List Str} (st : Stat G P w K mg base) (sx : StatX G P w K mg base) (hk : G.top ≤ k) (lk : K.lookup f = some ⟨oc, od, .func (PySem.W.fnOf name qual params body scope dV kV doc pm an cdv ct), osl⟩) (hcd : PySem.W.codeIn K cdv qual = true) (S : FnScope N ps scope)
    {n : Nat} (hn : ps.length = n) {g : DFn} (hg : g = fnD n N.length (cSs G N lim fu true scope body)) :
    FnOk P w K mg base (L2.CX P w) (k + 1) f (PySem.W.fnOf name qual params body scope dV kV doc pm an cdv ct) ps (spOf P w K mg n g) := by
  subst hn
  subst hg
  refine L2.fn_of lk hcd S (fun vs H Q E h => h.1) fun A outer s H vs Q E hr ⟨hl, ρ, S0, ds, hH, rv, q⟩ => ?_
  let X := cxOf (L2.CX P w) P w K mg base N qual scope f cdv A outer s H E
  have tk : Takes X (fun cls d _ H => E cls d H) := takes_of (X := X) rfl rfl rfl rfl
  have C : SCtx G N scope X := ⟨⟨st, hr.mono hk, rfl, fun _ _ => rfl, S.nd, ⟨fun _ h => h, fun _ h => h, fun _ h => h, fun _ h => h⟩, rfl⟩, sx, rfl, rfl, passes_of (X := X) rfl, S.kind⟩
  refine ⟨_, (sndS (lim := lim) fu).Ss (W := fun cls d _ H => E cls d H) true body C tk (fun _ _ _ _ _ _ h => h), ρ, S0, ds.map some ++ List.replicate (N.length - ds.length) none, hH, start_grel rv, ?_⟩
  unfold fnD at q
  have hdl : ds.length = ps.length := rv.len.trans hl
  rw [if_pos hdl, ← hdl] at q
  have q' : PostG X (fun cls d _ H => E cls d H) (L2.start N vs) ρ H ((cSs G N lim fu true scope body (ds.map some ++ List.replicate (N.length - ds.length) none) S0).bind fun r S1 => match r.1 with
    | .nx => .ok .non S1
    | .rt d => .ok d S1
    | _ => .bad) fun d _ ρ' H' => ∀ v, RepV K ρ' H' d v → Q v H' := postG_of (X := X) q fun _ _ _ h => h
  refine q'.bind.mono fun r S1 ρ1 H1 x1 hr1 ⟨_, q1⟩ => ?_
  obtain ⟨e, Γ1⟩ := r
  cases e with
  | nx => exact fun σ _ => (q1.ok hr1) .non (by rw [RepV])
  | rt d => exact fun v rv => (q1.ok hr1) v rv
  | bk => exact q1.elim
  | ct => exact q1.elim
end KN
set_option maxHeartbeats 200000
namespace KN
open PySem PySem.Spec PyProof.Rows L2
/-! ### the head's hook: facts by names, defs, and checks of one's own -/
def obsK (fa : List He.Fa) (fn : List He.DefD) (ex : PySem.W.Frag → Bool) (K : PySem.W.Frag) : He.AlD := (((fa.all fun f => f.ok K) && fn.all fun d => d.ok K) && ex K, fn.map fun d => He.fnW K d.at_)
def SaysK (fa : List He.Fa) (fn : List He.DefD) (ex : PySem.W.Frag → Bool) (K : PySem.W.Frag) : Prop := obsK fa fn ex K = He.valD fn
def obsKG (n : Nat) (fa : List He.Fa) (fn : List He.DefD) (ex : PySem.W.Frag → Bool) (g : Addr → Option Obj) : He.AlD := obsK fa fn ex (He.frG g (He.asD g n))
def hookK (n : Nat) (fa : List He.Fa) (fn : List He.DefD) (ex : PySem.W.Frag → Bool) : PySem.W.Hook where
  α := He.AlD
  obs := fun s => obsKG n fa fn ex s.heap.get?
  val := fun _ => He.valD fn
  says := fun _ h => ∃ K : PySem.W.Frag, K.In h ∧ SaysK fa fn ex K
  of := fun _ _ e => ⟨_, He.frG_in, e⟩
  keeps := fun _ _ _ ⟨K, hK, c⟩ k => ⟨K, PySem.W.Frag.In.keeps hK k, c⟩
theorem obsKG_eq {n : Nat} {fa : List He.Fa} {fn : List He.DefD} {ex : PySem.W.Frag → Bool} {g : Addr → Option Obj} {s : Shared} (h : ∀ a, g a = s.heap.get? a) : obsKG n fa fn ex g = (hookK n fa fn ex).obs s := by
  have e : g = s.heap.get? := funext h
  rw [e] <;> rfl
section
variable {fa : List He.Fa} {fn : List He.DefD} {ex : PySem.W.Frag → Bool} {K : PySem.W.Frag}
theorem SaysK.toD (c : SaysK fa fn ex K) : He.SaysD fa fn K ∧ ex K = true := by
  have c1 : (((fa.all fun f => f.ok K) && fn.all fun d => d.ok K) && ex K) = true := congrArg (fun z : He.AlD => z.1) c
  have c2 : fn.map (fun d => He.fnW K d.at_) = fn.map He.DefD.val := congrArg (fun z : He.AlD => z.2) c
  obtain ⟨h1, h2⟩ := Bool.and_eq_true_iff.mp c1
  exact ⟨Prod.ext h1 c2, h2⟩
end
end KN
set_option maxHeartbeats 200000
namespace KN
open PySem PySem.Spec PyProof.Rows L2
instance tyDec : DecidableEq TyN
  | .bi a, .bi b => if h : a = b then .isTrue (by rw [h]) else .isFalse fun e => h (by cases e; rfl)
  | .own a, .own b => if h : a = b then .isTrue (by rw [h]) else .isFalse fun e => h (by cases e; rfl)
  | .bi _, .own _ => .isFalse fun e => by cases e
  | .own _, .bi _ => .isFalse fun e => by cases e
/-! ### what the top left, by a look at the written part -/
mutual
def repB (K : PySem.W.Frag) : DV → Value → Bool
  | .non, .none => true
  | .bl b, .bool c => b == c
  | .int i, .int j _ => decide (i = j)
  | .str x, .str y _ => decide (x = y)
  | .tup l, .ref a => match K.lookup a with
    | some ⟨.type c, none, .seq its _, _⟩ => decide (c = "tuple") && (decide (its.size ≤ sizeLine) && repBs K l its.toList)
    | _ => false
  | _, _ => false
def repBs (K : PySem.W.Frag) : List DV → List Value → Bool
  | [], [] => true
  | d :: ds, u :: us => repB K d u && repBs K ds us
  | _, _ => false
end
mutual
theorem repB_ok {K : PySem.W.Frag} : ∀ (d : DV) (u : Value), repB K d u = true → ∃ v, RelV v u ∧ ∀ ρ H, RepV K ρ H d v
  | .non, u, h => by
    cases u <;> simp [repB] at h
    exact ⟨.non, rfl, fun _ _ => by rw [RepV]⟩
  | .bl b, u, h => by
    cases u <;> simp [repB] at h
    subst h
    exact ⟨.bl b, rfl, fun _ _ => by rw [RepV]⟩
  | .int i, u, h => by
    cases u <;> simp [repB] at h
    subst h
    exact ⟨.int i, ⟨_, rfl⟩, fun _ _ => by rw [RepV]⟩
  | .str x, u, h => by
    cases u <;> simp [repB] at h
    subst h
    exact ⟨.str x, ⟨_, rfl⟩, fun _ _ => by rw [RepV]⟩
  | .tup l, u, h => by
    cases u with
    | ref a =>
      rw [repB] at h
      split at h
      · rename_i c its n sl lk
        obtain ⟨h1, h2⟩ := Bool.and_eq_true_iff.mp h
        obtain ⟨h3, h4⟩ := Bool.and_eq_true_iff.mp h2
        obtain ⟨vs, r1, r2⟩ := repBs_ok l its.toList h4
        exact ⟨.ref a, rfl, fun ρ H => by
          rw [RepV]
          exact ⟨a, vs, rfl, .inr ⟨_, its, n, lk, congrArg Value.type (of_decide_eq_true h1), rfl, rfl, of_decide_eq_true h3, r1⟩, r2 ρ H⟩⟩
      · cases h
    | _ => simp [repB] at h
  | .ref n, u, h => by cases u <;> simp [repB] at h
  | .scr l, u, h => by cases u <;> simp [repB] at h
theorem repBs_ok {K : PySem.W.Frag} : ∀ (ds : List DV) (us : List Value), repBs K ds us = true → ∃ vs, Vals vs us ∧ ∀ ρ H, RepVs K ρ H ds vs
  | [], us, h => by
    cases us with
    | nil => exact ⟨[], .nil, fun _ _ => by rw [RepVs]⟩
    | cons u us => simp [repBs] at h
  | d :: ds, us, h => by
    cases us with
    | nil => simp [repBs] at h
    | cons u us =>
      rw [repBs] at h
      obtain ⟨h1, h2⟩ := Bool.and_eq_true_iff.mp h
      obtain ⟨v, a1, a2⟩ := repB_ok d u h1
      obtain ⟨vs, b1, b2⟩ := repBs_ok ds us h2
      exact ⟨v :: vs, .cons a1 b1, fun ρ H => .cons (a2 ρ H) (b2 ρ H)⟩
end
/-- where a def stands -/
inductive Loc where
  | glo (x : Str) | meth (c m : Str) | prop (c m : Str)
def Loc.ad (K : PySem.W.Frag) : Loc → Addr
  | .glo x => He.ga K x
  | .meth c m => He.ma K (He.ga K c) m
  | .prop c m => match PySem.W.findIn K (.ref (He.ga K c)) m with
    | some (some (.ref p)) => match PySem.W.recIn K p "property" with
      | some (.ref g :: _) => g
      | _ => 0
    | _ => 0
structure DefQ where
  at_ : Loc
  name : Str
  qual : Str
  params : Arguments
  body : List Stmt
  scope : Scope
  dfl : List DV := []
abbrev FnQ : Type := Option (Str × Str × Arguments × FuncBody × Scope × Addr × List Str × Addr)
def fnQ (K : PySem.W.Frag) (a : Addr) : FnQ := match K.lookup a with
  | some ⟨_, _, .func fd, _⟩ => some (fd.name, fd.qualname, fd.params, fd.body, fd.scope, fd.globals, fd.closure.map (·.1), fd.builtins)
  | _ => none
def DefQ.val (d : DefQ) (cl : List Str) : FnQ := some (d.name, d.qual, d.params, .stmts d.body, d.scope, mainGlobals, cl, builtinsNs)
def dflQ (K : PySem.W.Frag) (ds : List DV) (dV : Value) : Bool := match ds with
  | [] => decide (dV = .none)
  | d :: r => match dV with
    | .ref T => match K.lookup T with
      | some ⟨_, _, .seq its _, _⟩ => repBs K (d :: r) its.toList
      | _ => false
    | _ => false
def DefQ.ok (K : PySem.W.Frag) (d : DefQ) : Bool := PySem.W.keepIn K (.ref (d.at_.ad K)) && (match K.lookup (d.at_.ad K) with
  | some ⟨_, _, .func fd, _⟩ => PySem.W.codeIn K fd.code d.qual && dflQ K d.dfl fd.defaults
  | _ => false)
/-- a def as it stands -/
structure FunQ (K : PySem.W.Frag) (d : DefQ) (dvs : List V) (fd : FuncData) : Prop where
  fn : FunD K d.name d.qual d.params d.body d.scope dvs [] (d.at_.ad K) fd
  rep : ∀ ρ H, RepVs K ρ H d.dfl dvs
theorem FunQ_of {K : PySem.W.Frag} {d : DefQ} (e : fnQ K (d.at_.ad K) = d.val []) (c : d.ok K = true) : ∃ dvs fd, FunQ K d dvs fd := by
  obtain ⟨kp, c2⟩ := Bool.and_eq_true_iff.mp c
  unfold fnQ at e
  cases q : K.lookup (d.at_.ad K) with
  | none => rw [q] at c2; cases c2
  | some o =>
    obtain ⟨oc, od, dt, osl⟩ := o
    rw [q] at c2 e
    cases dt with
    | func fd =>
      obtain ⟨n1, n2, n3, n4, n5, n6, n7, n8, n9, n10, n11, n12, n13, n14, n15⟩ := fd
      have e2 : (some (n1, n2, n3, n4, n5, n6, n7.map (·.1), n15) : FnQ) = some (d.name, d.qual, d.params, .stmts d.body, d.scope, mainGlobals, [], builtinsNs) := e
      simp only [Option.some.injEq, Prod.mk.injEq, List.map_eq_nil_iff] at e2
      obtain ⟨h1, h2, h3, h4, h5, h6, h7, h8⟩ := e2
      subst h1 h2 h3 h4 h5 h6 h7 h8
      obtain ⟨k1, k2⟩ := Bool.and_eq_true_iff.mp (show (PySem.W.codeIn K n13 d.qual && dflQ K d.dfl n8) = true from c2)
      unfold dflQ at k2
      split at k2
      · rename_i ed
        exact ⟨[], _, ⟨⟨oc, od, n8, n9, n10, n11, n12, n13, n14, osl, rfl, q, k1, .inl ⟨rfl, of_decide_eq_true k2⟩, .inl rfl⟩, kp⟩, fun ρ H => by rw [ed, RepVs]⟩
      · rename_i d0 r ed
        split at k2
        · rename_i T
          split at k2
          · rename_i oc2 od2 its n osl2 lT
            obtain ⟨vs, r1, r2⟩ := repBs_ok _ _ k2
            have hne : vs ≠ [] := fun z => by
              have := (r2 [] (fun _ => none)).len
              rw [z] at this
              cases this
            exact ⟨vs, _, ⟨⟨oc, od, .ref T, n9, n10, n11, n12, n13, n14, osl, rfl, q, k1, .inr ⟨hne, T, _, its.toList, n, rfl, lT, by simp, r1⟩, .inl rfl⟩, kp⟩, fun ρ H => by rw [ed]; exact r2 ρ H⟩
          · cases k2
        · cases k2
    | _ => cases c2
end KN
set_option maxHeartbeats 200000
namespace KN
open PySem PySem.Spec PyProof.Rows L2
/-! ### own exception classes, by a look -/
def oexB (K : PySem.W.Frag) (C : Addr) : Bool := (match K.lookup C with
  | some ⟨.type c, _, .cls cd, sl⟩ => decide (c = "type") && (match cd.mro, sl.toList with
    | .ref C' :: bm, [_, _, _, _, some (.builtin n), _] => decide (C' = C) && (decide (n = "ValueError.__new__") && (!cd.hasDel && (cd.hasDict && PySem.HandSPX.refsVE bm)))
    | _, _ => false)
  | _ => false) && (decide (PySem.W.findIn K (.ref C) "__setattr__" = some (some (.builtin "object.__setattr__"))) && (decide (PySem.W.subIn K (.ref C) (.type "BaseException") = some true) &&
    (decide (PySem.W.typeIn K (.ref C) = some (.type "type")) && PySem.W.keepIn K (.ref C))))
theorem oexB_ok {K : PySem.W.Frag} {C : Addr} (h : oexB K C = true) : OexC K C := by
  obtain ⟨h1, h⟩ := Bool.and_eq_true_iff.mp h
  obtain ⟨h2, h⟩ := Bool.and_eq_true_iff.mp h
  obtain ⟨h3, h⟩ := Bool.and_eq_true_iff.mp h
  obtain ⟨h4, h5⟩ := Bool.and_eq_true_iff.mp h
  refine ⟨?_, of_decide_eq_true h2, of_decide_eq_true h3, of_decide_eq_true h4, h5⟩
  split at h1
  · rename_i c dd cd sl lk
    obtain ⟨e1, h1⟩ := Bool.and_eq_true_iff.mp h1
    split at h1
    · rename_i C' bm k0 k1 k2 k3 n k5 hm hs
      obtain ⟨e2, h1⟩ := Bool.and_eq_true_iff.mp h1
      obtain ⟨e3, h1⟩ := Bool.and_eq_true_iff.mp h1
      obtain ⟨e4, h1⟩ := Bool.and_eq_true_iff.mp h1
      obtain ⟨e5, e6⟩ := Bool.and_eq_true_iff.mp h1
      have e1 := of_decide_eq_true e1
      have e2 := of_decide_eq_true e2
      have e3 := of_decide_eq_true e3
      obtain ⟨nm, bs, mro, ns, qn, hd, sn, sub, ab, col, del⟩ := cd
      simp only [Bool.not_eq_true'] at hm e4 e5
      subst hm e4 e5 e1 e2 e3
      have hsl : sl = #[k0, k1, k2, k3, some (.builtin "ValueError.__new__"), k5] := by
        obtain ⟨l⟩ := sl
        simp only at hs
        rw [hs]
      subst hsl
      exact ⟨_, _, _, _, _, _, _, _, _, _, _, _, _, _, _, lk, e6⟩
    · cases h1
  · cases h1
def exiB (K : PySem.W.Frag) (file c : Str) (fl : List Str) (qual : Str) : Bool :=
  (He.Fa.glo c).ok K && (oexB K (He.ga K c) && (xfB K (He.ga K c) && (fl.all (fun f => decide (PySem.W.findIn K (.ref (He.ga K c)) f = some none)) &&
  (decide (PySem.W.findIn K (.ref (He.ga K c)) "__init__" = some (some (.ref (He.ma K (He.ga K c) "__init__")))) && (decide (PySem.W.typeIn K (.ref (He.ma K (He.ga K c) "__init__")) = some (.type "function")) &&
  (decide (PySem.W.mroIn K (He.ga K c) (.ref (He.ga K c)) = some true) && (decide (PySem.W.ks_superIn K (He.ga K c) (He.ga K c) "__init__" = some (some (.builtin "ValueError.__init__"))) &&
  (decide (PySem.W.subIn K (.ref (He.ga K c)) (.type "ValueError") = some true) && (decide (PySem.W.nsIn K cStatics "thirdparty.any" = some none) &&
  (match K.lookup (He.ma K (He.ga K c) "__init__") with
    | some ⟨_, _, .func fd, _⟩ => PySem.W.codeIn K fd.code qual && (decide (fd.defaults = .none) && ((match fd.closure with
      | [(_, cc)] => (match K.lookup cc with
        | some ⟨_, _, .cell (some (.ref C')), _⟩ => decide (C' = He.ga K c)
        | _ => false)
      | _ => false) && (match fd.code with
      | .ref cda => (match K.lookup cda with
        | some ⟨_, _, .fields vs, _⟩ => (match vs[2]? with
          | some (Value.str f _) => decide (f = file)
          | _ => false)
        | _ => false)
      | _ => false)))
    | _ => false))))))))))
section
variable {P : Program} {w : World} {K : PySem.W.Frag} {mg : Str → Option Value} {base : Heap}
theorem exi_ok {file c : Str} {fl : List Str} {d : DefQ} (hat : d.at_ = .meth c "__init__") (hfile : (P.main.file : Str) = file) (htop : (P.main.scope.names.lookup ("super" : Str)).isSome = false)
    (e : fnQ K (d.at_.ad K) = d.val ["__class__"]) (b : exiB K file c fl d.qual = true) :
    OexC K (He.ga K c) ∧ XfC K (He.ga K c) ∧ (∀ f ∈ fl, PySem.W.findIn K (.ref (He.ga K c)) f = some none) ∧ PySem.W.findIn K (.ref (He.ga K c)) "__init__" = some (some (.ref (He.ma K (He.ga K c) "__init__"))) ∧
    PySem.W.typeIn K (.ref (He.ma K (He.ga K c) "__init__")) = some (.type "function") ∧ ∃ oc od kV doc pm an cdv ct cc osl, EiC P K (He.ga K c) cdv cc ∧ PySem.W.codeIn K cdv d.qual = true ∧
    K.lookup (He.ma K (He.ga K c) "__init__") = some ⟨oc, od, .func (PySem.W.ksFn d.name d.qual d.params d.body d.scope .none kV doc pm an cdv ct cc), osl⟩ := by
  unfold exiB at b
  obtain ⟨_, b⟩ := Bool.and_eq_true_iff.mp b
  obtain ⟨b1, b⟩ := Bool.and_eq_true_iff.mp b
  obtain ⟨b2, b⟩ := Bool.and_eq_true_iff.mp b
  obtain ⟨b3, b⟩ := Bool.and_eq_true_iff.mp b
  obtain ⟨b4, b⟩ := Bool.and_eq_true_iff.mp b
  obtain ⟨b5, b⟩ := Bool.and_eq_true_iff.mp b
  obtain ⟨b6, b⟩ := Bool.and_eq_true_iff.mp b
  obtain ⟨b7, b⟩ := Bool.and_eq_true_iff.mp b
  obtain ⟨b8, b⟩ := Bool.and_eq_true_iff.mp b
  obtain ⟨b9, b⟩ := Bool.and_eq_true_iff.mp b
  refine ⟨oexB_ok b1, xfB_ok b2, fun f hf => of_decide_eq_true (List.all_eq_true.mp b3 f hf), of_decide_eq_true b4, of_decide_eq_true b5, ?_⟩
  rw [hat] at e
  change fnQ K (He.ma K (He.ga K c) "__init__") = _ at e
  unfold fnQ at e
  split at b
  · rename_i oc od fd osl lk
    rw [lk] at e
    obtain ⟨n1, n2, n3, n4, n5, n6, n7, n8, n9, n10, n11, n12, n13, n14, n15⟩ := fd
    have e2 : (some (n1, n2, n3, n4, n5, n6, n7.map (·.1), n15) : FnQ) = some (d.name, d.qual, d.params, FuncBody.stmts d.body, d.scope, mainGlobals, [("__class__" : Str)], builtinsNs) := e
    simp only [Option.some.injEq, Prod.mk.injEq] at e2
    obtain ⟨h1, h2, h3, h4, h5, h6, h7, h8⟩ := e2
    subst h1 h2 h3 h4 h5 h6 h8
    obtain ⟨c1, b⟩ := Bool.and_eq_true_iff.mp b
    obtain ⟨c2, b⟩ := Bool.and_eq_true_iff.mp b
    obtain ⟨c3, c4⟩ := Bool.and_eq_true_iff.mp b
    dsimp only at c1 c2 c3 c4
    have d2 := of_decide_eq_true c2
    split at c3
    · rename_i y cc _ _
      simp only [List.map_cons, List.map_nil, List.cons.injEq, and_true] at h7
      subst h7 d2
      split at c3
      · rename_i cl cld C' csl lc
        have d3 := of_decide_eq_true c3
        subst d3
        split at c4
        · rename_i cda _ _
          split at c4
          · rename_i ccl cdd vs ccs lcd
            split at c4
            · rename_i f tf hv
              have d4 := of_decide_eq_true c4
              subst d4
              exact ⟨oc, od, n9, n10, n11, n12, _, n14, cc, osl, ⟨oexB_ok b1, ⟨cda, ccl, cdd, vs, ccs, f, tf, rfl, lcd, hv, by rw [hfile]; exact beq_self_eq_true _⟩, ⟨cl, cld, csl, lc⟩, of_decide_eq_true b6, of_decide_eq_true b7, of_decide_eq_true b8, of_decide_eq_true b9, htop⟩, c1, lk⟩
            · cases c4
          · cases c4
        · cases c4
      · cases c3
    · cases c3
  · cases b
end
end KN
set_option maxHeartbeats 200000
namespace KN
open PySem PySem.Spec PyProof.Rows L2
/-! ### tables -/
def look1 {β : Type} : List (Str × β) → Str → Option β
  | [], _ => none
  | p :: r, x => if p.1 = x then some p.2 else look1 r x
theorem look1_mem {β : Type} {x : Str} {b : β} : ∀ {l : List (Str × β)}, look1 l x = some b → (x, b) ∈ l
  | [], h => by cases h
  | p :: r, h => by
    unfold look1 at h
    split at h
    · rename_i e
      cases h
      rw [← e]
      exact List.mem_cons_self ..
    · exact List.mem_cons_of_mem _ (look1_mem h)
def look2 {α β : Type} [DecidableEq α] : List (Str × α × β) → Str → α → Option β
  | [], _, _ => none
  | p :: r, x, y => if p.1 = x ∧ p.2.1 = y then some p.2.2 else look2 r x y
theorem look2_mem {α β : Type} [DecidableEq α] {x : Str} {y : α} {b : β} : ∀ {l : List (Str × α × β)}, look2 l x y = some b → (x, y, b) ∈ l
  | [], h => by cases h
  | p :: r, h => by
    unfold look2 at h
    split at h
    · rename_i e
      cases h
      rw [← e.1, ← e.2]
      exact List.mem_cons_self ..
    · exact List.mem_cons_of_mem _ (look2_mem h)
/-- the program's classes: plain ones, their fields, who is asked first by ==, exceptions, their base -/
structure CW where
  cls : List Str
  flds : List (Str × Str)
  nft : List (Str × TyN)
  exc : List Str
  root : Str
def biL : List String := ["NoneType", "bool", "int", "str", "tuple", "list", "dict"]
def ioF (cls : List Str) : TyN → TyN → Option Bool
  | .bi a, .bi b => if a ∈ biL ∧ b ∈ biL then some (decide (a = b) || (decide (a = "bool") && decide (b = "int"))) else none
  | .own a, .bi b => if a ∈ cls ∧ b ∈ biL then some false else none
  | .bi a, .own b => if a ∈ biL ∧ b ∈ cls then some false else none
  | .own a, .own b => if a ∈ cls ∧ b ∈ cls then some (decide (a = b)) else none
def isxF (W : CW) (c x : Str) : Option Bool := if c ∈ W.exc ∧ x ∈ W.exc then some (decide (c = x) || decide (x = W.root)) else none
def CW.fl (W : CW) (c f : Str) : Bool := decide ((c, f) ∈ W.flds)
def CW.ic (W : CW) (c : Str) : Bool := decide (c ∈ W.cls)
def CW.nf (W : CW) (c : Str) (t : TyN) : Bool := decide ((c, t) ∈ W.nft)
/-- what a law's top has beside: constants, own names, free names, exceptions' fields -/
structure LB where
  cst : List (Str × DV)
  own : List Str
  blt : List Str
  exf : List (Str × List Str)
structure Ents where
  fn : List (Str × Nat × (List DV × DFn)) := []
  mkc : List (Str × Nat × (List DV × DFn)) := []
  mt : List (Str × Str × DFn) := []
  pr : List (Str × Str × DFn) := []
def mkG (W : CW) (B : LB) (E : Ents) (top : Nat) : Cfg where
  top := top
  cst := look1 B.cst
  fn := look2 E.fn
  mke := look2 E.mkc
  mt := look2 E.mt
  pr := look2 E.pr
  fl := W.fl
  io := ioF W.cls
  ic := W.ic
  nf := W.nf
  own := fun c => decide (c ∈ B.own)
  ex := look1 B.exf
  isx := isxF W
  blt := fun x => decide (x ∈ B.blt)
/-! ### the look -/
def absB (K : PySem.W.Frag) (c : Str) : Bool := (He.Fa.free c).ok K
def gloB (K : PySem.W.Frag) (c : Str) : Bool := (He.Fa.glo c).ok K
def tyAb (K : PySem.W.Frag) : TyN → Bool
  | .bi _ => false
  | .own c => absB K c
def tyGl (K : PySem.W.Frag) : TyN → Bool
  | .bi _ => true
  | .own c => gloB K c
def tyV (K : PySem.W.Frag) : TyN → Value
  | .bi n => .type n
  | .own c => .ref (He.ga K c)
def insB (K : PySem.W.Frag) (C : Addr) : Bool := decide (PySem.W.findIn K (.ref C) "__class__" = some (some (.builtin "object.__class__"))) &&
  (decide (PySem.W.specialIn K (.builtin "object.__class__") "__get__" = some (some (.builtin "getset_descriptor.__get__"))) && (decide (PySem.W.takesIn K (.builtin "object.__class__") = some true) && decide (PySem.W.mroIn K C (.type "object") = some true)))
def clsB (K : PySem.W.Frag) (c : Str) : Bool := absB K c || (gloB K c && ((He.Fa.cls c).ok K && insB K (He.ga K c)))
def fldB (K : PySem.W.Frag) (p : Str × Str) : Bool := absB K p.1 || (gloB K p.1 && ((He.Fa.cls p.1).ok K && (He.Fa.noat p.1 p.2).ok K))
def nfB (K : PySem.W.Frag) (p : Str × TyN) : Bool := absB K p.1 || (tyAb K p.2 || (gloB K p.1 && (tyGl K p.2 && PySem.W.notFirst K (He.ga K p.1) (tyV K p.2))))
def tysOf (W : CW) : List TyN := biL.map .bi ++ W.cls.map .own
def ioB (K : PySem.W.Frag) (W : CW) : Bool := (tysOf W).all fun t => (tysOf W).all fun c => tyAb K t || (tyAb K c || (tyGl K t && (tyGl K c && decide (PySem.W.kitOne K (tyV K t) (tyV K c) = ioF W.cls t c))))
def isxB (K : PySem.W.Frag) (W : CW) : Bool := W.exc.all fun c => W.exc.all fun x => absB K c || (absB K x || (gloB K c && (gloB K x && decide (PySem.W.exmOne K (.ref (He.ga K c)) (.ref (He.ga K x)) = isxF W c x))))
def cstB (K : PySem.W.Frag) (p : Str × DV) : Bool := match PySem.W.nsIn K mainGlobals p.1 with
  | some (some u) => repB K p.2 u
  | _ => false
def propB (K : PySem.W.Frag) (c m : Str) : Bool := match PySem.W.findIn K (.ref (He.ga K c)) m with
  | some (some (.ref p)) => decide (PySem.W.specialIn K (.ref p) "__get__" = some (some (.builtin "property.__get__"))) && (decide (PySem.W.takesIn K (.ref p) = some true) && (match PySem.W.recIn K p "property" with
    | some (.ref g :: _) => true
    | _ => false))
  | _ => false
def lokB (K : PySem.W.Frag) : Loc → Bool
  | .glo x => gloB K x
  | .meth c m => gloB K c && (if m = "__init__" then (He.Fa.mkr c).ok K else (He.Fa.cls c).ok K && (He.Fa.meth c m).ok K)
  | .prop c m => gloB K c && ((He.Fa.cls c).ok K && propB K c m)
/-- an exception's __init__ -/
structure ExD where
  cls : Str
  fl : List Str
  d : DefQ
def statB (K : PySem.W.Frag) (W : CW) (B : LB) : Bool := W.cls.all (clsB K) && (W.flds.all (fldB K) && (W.nft.all (nfB K) && (ioB K W && (isxB K W && (B.cst.all (cstB K) && (B.own.all (gloB K) && (B.blt.all (absB K) && B.exf.all fun p => gloB K p.1)))))))
def allB (file : Str) (W : CW) (B : LB) (qs : List DefQ) (xs : List ExD) (K : PySem.W.Frag) : Bool := statB K W B && (qs.all (fun d => d.ok K && lokB K d.at_) && xs.all fun x => exiB K file x.cls x.fl x.d.qual)
abbrev AlQ : Type := Bool × List FnQ
def obsQ (file : Str) (W : CW) (B : LB) (qs : List DefQ) (xs : List ExD) (K : PySem.W.Frag) : AlQ := (allB file W B qs xs K, qs.map (fun d => fnQ K (d.at_.ad K)) ++ xs.map fun x => fnQ K (x.d.at_.ad K))
def valQ (qs : List DefQ) (xs : List ExD) : AlQ := (true, qs.map (fun d => d.val []) ++ xs.map fun x => x.d.val ["__class__"])
def SaysQ (file : Str) (W : CW) (B : LB) (qs : List DefQ) (xs : List ExD) (K : PySem.W.Frag) : Prop := obsQ file W B qs xs K = valQ qs xs
def obsQG (n : Nat) (file : Str) (W : CW) (B : LB) (qs : List DefQ) (xs : List ExD) (g : Addr → Option Obj) : AlQ := obsQ file W B qs xs (He.frG g (He.asD g n ++ [cStatics]))
def hookQ (n : Nat) (file : Str) (W : CW) (B : LB) (qs : List DefQ) (xs : List ExD) : PySem.W.Hook where
  α := AlQ
  obs := fun s => obsQG n file W B qs xs s.heap.get?
  val := fun _ => valQ qs xs
  says := fun _ h => ∃ K : PySem.W.Frag, K.In h ∧ SaysQ file W B qs xs K
  of := fun _ _ e => ⟨_, He.frG_in, e⟩
  keeps := fun _ _ _ ⟨K, hK, c⟩ k => ⟨K, PySem.W.Frag.In.keeps hK k, c⟩
theorem obsQG_eq {n : Nat} {file : Str} {W : CW} {B : LB} {qs : List DefQ} {xs : List ExD} {g : Addr → Option Obj} {s : Shared} (h : ∀ a, g a = s.heap.get? a) : obsQG n file W B qs xs g = (hookQ n file W B qs xs).obs s := by
  have e : g = s.heap.get? := funext h
  rw [e] <;> rfl
/-- all that is known of the written part -/
structure Fx (file : Str) (W : CW) (B : LB) (qs : List DefQ) (xs : List ExD) (K : PySem.W.Frag) (mg : Str → Option Value) : Prop where
  h : ∃ h : Heap, K.In h ∧ h.Ns mainGlobals mg
  says : SaysQ file W B qs xs K
section
variable {file : Str} {W : CW} {B : LB} {qs : List DefQ} {xs : List ExD} {K : PySem.W.Frag} {mg : Str → Option Value} {P : Program} {w : World} {base : Heap}
theorem Fx.glo (F : Fx file W B qs xs K mg) {x : Str} (h : gloB K x = true) : mg x = some (.ref (He.ga K x)) := by
  obtain ⟨_, X, G⟩ := F.h
  exact He.glo_ok X G h
theorem Fx.abs (F : Fx file W B qs xs K mg) {x : Str} (h : absB K x = true) : mg x = none := by
  obtain ⟨_, X, G⟩ := F.h
  exact He.free_ok X G h
theorem Fx.stat (F : Fx file W B qs xs K mg) : statB K W B = true := (Bool.and_eq_true_iff.mp (show allB file W B qs xs K = true from congrArg (fun z : AlQ => z.1) F.says)).1
theorem Fx.vals (F : Fx file W B qs xs K mg) : qs.map (fun d => fnQ K (d.at_.ad K)) ++ xs.map (fun x => fnQ K (x.d.at_.ad K)) = qs.map (fun d => d.val []) ++ xs.map fun x => x.d.val ["__class__"] := congrArg (fun z : AlQ => z.2) F.says
theorem Fx.at_ (F : Fx file W B qs xs K mg) {d : DefQ} (hd : d ∈ qs) : (∃ dvs fd, FunQ K d dvs fd) ∧ lokB K d.at_ = true := by
  have e := F.vals
  have e1 := List.append_inj_left e (by simp)
  have b1 := (Bool.and_eq_true_iff.mp (show allB file W B qs xs K = true from congrArg (fun z : AlQ => z.1) F.says)).2
  have b2 := List.all_eq_true.mp (Bool.and_eq_true_iff.mp b1).1 d hd
  obtain ⟨b3, b4⟩ := Bool.and_eq_true_iff.mp b2
  exact ⟨FunQ_of (List.map_inj_left.mp e1 d hd) b3, b4⟩
theorem Fx.exd (F : Fx file W B qs xs K mg) {x : ExD} (hx : x ∈ xs) : fnQ K (x.d.at_.ad K) = x.d.val ["__class__"] ∧ exiB K file x.cls x.fl x.d.qual = true := by
  have e := F.vals
  have e1 := List.append_inj_right e (by simp)
  have b1 := (Bool.and_eq_true_iff.mp (show allB file W B qs xs K = true from congrArg (fun z : AlQ => z.1) F.says)).2
  exact ⟨List.map_inj_left.mp e1 x hx, List.all_eq_true.mp (Bool.and_eq_true_iff.mp b1).2 x hx⟩
theorem ref_inj {a b : Addr} (h : (Value.ref a : Value) = .ref b) : a = b := by cases h; rfl
end
end KN
set_option maxHeartbeats 200000
namespace KN
open PySem PySem.Spec PyProof.Rows L2
theorem FnS.mono {P : Program} {w : World} {K : PySem.W.Frag} {mg : Str → Option Value} {base : Heap} {t t' : Nat} {f : Addr} {n : Nat} {dd : List DV} {g : DFn} (F : FnS P w K mg base t f n dd g) (h : t ≤ t') : FnS P w K mg base t' f n dd g := by
  obtain ⟨fd, ps, k, ds, dvs, h1, h2, h3⟩ := F.run
  exact ⟨F.ar, fd, ps, k, ds, dvs, h1, Nat.le_trans h2 h, h3⟩
section
variable (P : Program) (w : World) (K : PySem.W.Frag) (mg : Str → Option Value) (base : Heap)
def OkFn (top : Nat) (x : Str) (dd : List DV) (g : DFn) : Prop := ∃ f m, mg x = some (.ref f) ∧ PySem.W.keepIn K (.ref f) = true ∧ FnS P w K mg base top f m dd g
def OkMk (top : Nat) (x : Str) (dd : List DV) (g : DFn) : Prop := ∃ C f m, mg x = some (.ref C) ∧ Mk K C f ∧ FnS P w K mg base top f m dd g
def OkMt (top : Nat) (c m : Str) (g : DFn) : Prop := ∃ C, mg c = some (.ref C) ∧ Cls K C ∧ ∃ f n, Meth K C m f ∧ FnS P w K mg base top f n [] g
def OkPr (top : Nat) (c m : Str) (g : DFn) : Prop := ∃ C, mg c = some (.ref C) ∧ Cls K C ∧ ∃ p f n fd ps k, PropOf K C m p f ∧ (∀ ds S, ds.length ≠ n → g ds S = .bad) ∧ FnOk P w K mg base (L2.CX P w) k f fd ps (spOf P w K mg n g) ∧ k + 1 ≤ top ∧ Binds K fd ps []
structure EntsOk (top : Nat) (E : Ents) : Prop where
  fn : ∀ p ∈ E.fn, OkFn P w K mg base top p.1 p.2.2.1 p.2.2.2
  mkc : ∀ p ∈ E.mkc, OkMk P w K mg base top p.1 p.2.2.1 p.2.2.2
  mt : ∀ p ∈ E.mt, OkMt P w K mg base top p.1 p.2.1 p.2.2
  pr : ∀ p ∈ E.pr, OkPr P w K mg base top p.1 p.2.1 p.2.2
end
section
variable {file : Str} {W : CW} {B : LB} {qs : List DefQ} {xs : List ExD} {K : PySem.W.Frag} {mg : Str → Option Value} {P : Program} {w : World} {base : Heap}
theorem OkFn.mono {t t' : Nat} {x : Str} {dd : List DV} {g : DFn} (F : OkFn P w K mg base t x dd g) (h : t ≤ t') : OkFn P w K mg base t' x dd g := by
  obtain ⟨f, m, a, b, c⟩ := F
  exact ⟨f, m, a, b, c.mono h⟩
theorem OkMk.mono {t t' : Nat} {x : Str} {dd : List DV} {g : DFn} (F : OkMk P w K mg base t x dd g) (h : t ≤ t') : OkMk P w K mg base t' x dd g := by
  obtain ⟨C, f, m, a, b, c⟩ := F
  exact ⟨C, f, m, a, b, c.mono h⟩
theorem OkMt.mono {t t' : Nat} {x m : Str} {g : DFn} (F : OkMt P w K mg base t x m g) (h : t ≤ t') : OkMt P w K mg base t' x m g := by
  obtain ⟨C, a, b, f, n, c, d⟩ := F
  exact ⟨C, a, b, f, n, c, d.mono h⟩
theorem OkPr.mono {t t' : Nat} {x m : Str} {g : DFn} (F : OkPr P w K mg base t x m g) (h : t ≤ t') : OkPr P w K mg base t' x m g := by
  obtain ⟨C, a, b, p, f, n, fd, ps, k, c, d, e, e2, e3⟩ := F
  exact ⟨C, a, b, p, f, n, fd, ps, k, c, d, e, Nat.le_trans e2 h, e3⟩
theorem Fx.parts (F : Fx file W B qs xs K mg) : (∀ c ∈ W.cls, clsB K c = true) ∧ (∀ c ∈ W.flds, fldB K c = true) ∧ (∀ c ∈ W.nft, nfB K c = true) ∧ ioB K W = true ∧ isxB K W = true ∧ (∀ p ∈ B.cst, cstB K p = true) ∧ (∀ p ∈ B.own, gloB K p = true) ∧ (∀ p ∈ B.blt, absB K p = true) ∧ ∀ p ∈ B.exf, gloB K p.1 = true := by
  have h := F.stat
  unfold statB at h
  simp only [Bool.and_eq_true, List.all_eq_true] at h
  exact h
theorem isxF_mem {c x : Str} {b : Bool} (h : isxF W c x = some b) : c ∈ W.exc ∧ x ∈ W.exc := by
  unfold isxF at h
  split at h
  · assumption
  · cases h
theorem ioF_mem {t c : TyN} {b : Bool} (h : ioF W.cls t c = some b) : t ∈ tysOf W ∧ c ∈ tysOf W := by
  unfold tysOf
  cases t <;> cases c <;> simp only [ioF] at h <;> split at h <;> first | (cases h; done) | (rename_i z; simp [z.1, z.2])
theorem Fx.tyv (F : Fx file W B qs xs K mg) {t : TyN} (g : tyGl K t = true) {tv : Value} (e : t.val mg = some tv) : tv = tyV K t := by
  cases t with
  | bi n => cases e; rfl
  | own c =>
    have e' : mg c = some tv := e
    rw [F.glo g] at e'
    cases e'
    rfl
theorem Fx.tyab (F : Fx file W B qs xs K mg) {t : TyN} (g : tyAb K t = true) {tv : Value} (e : t.val mg = some tv) : False := by
  cases t with
  | bi n => cases g
  | own c =>
    have e' : mg c = some tv := e
    rw [F.abs g] at e'
    cases e'
theorem Fx.statG (F : Fx file W B qs xs K mg) {E : Ents} {top : Nat} (hE : EntsOk P w K mg base top E) : Stat (mkG W B E top) P w K mg base := by
  obtain ⟨p1, p2, p3, p4, p5, p6, p7, p8, p9⟩ := F.parts
  obtain ⟨hp, X, G⟩ := F.h
  have at_ : ∀ {c : Str} {C : Addr}, gloB K c = true → mg c = some (.ref C) → C = He.ga K c := fun g e => by
    rw [F.glo g] at e
    cases e
    rfl
  refine ⟨fun x d h => ?_, fun x n dd g h => hE.fn _ (look2_mem h), fun x n dd g h => hE.mkc _ (look2_mem h), fun c m g C h e => ?_, fun c m g C h e => ?_, fun c f C h e => ?_, fun c C h e => ?_, fun t c b tv cv h e1 e2 => ?_, fun c t C tv h e1 e2 => ?_, fun c h => ?_, fun c x b v u h e1 e2 => ?_, fun x h => ?_⟩
  · have k := p6 _ (look1_mem h)
    unfold cstB at k
    split at k
    · rename_i u e
      obtain ⟨v, r1, r2⟩ := repB_ok _ _ k
      exact ⟨v, u, PySem.W.mg_of X G e, r1, r2⟩
    · cases k
  · obtain ⟨C', a, r⟩ := hE.mt _ (look2_mem h)
    have a' : mg c = some (.ref C') := a
    rw [e] at a'
    cases a'
    exact r
  · obtain ⟨C', a, r⟩ := hE.pr _ (look2_mem h)
    have a' : mg c = some (.ref C') := a
    rw [e] at a'
    cases a'
    exact r
  · have k := p2 _ (of_decide_eq_true h)
    unfold fldB at k
    rcases Bool.or_eq_true_iff.mp k with k | k
    · rw [F.abs k] at e; cases e
    · obtain ⟨k1, k⟩ := Bool.and_eq_true_iff.mp k
      obtain ⟨k2, k3⟩ := Bool.and_eq_true_iff.mp k
      cases at_ k1 e
      exact ⟨He.cls_ok k2, He.noat_ok k3⟩
  · have k := p1 _ (of_decide_eq_true h)
    unfold clsB at k
    rcases Bool.or_eq_true_iff.mp k with k | k
    · rw [F.abs k] at e; cases e
    · obtain ⟨k1, k⟩ := Bool.and_eq_true_iff.mp k
      obtain ⟨k2, k⟩ := Bool.and_eq_true_iff.mp k
      unfold insB at k
      simp only [Bool.and_eq_true, decide_eq_true_eq] at k
      cases at_ k1 e
      exact ⟨He.cls_ok k2, k.1, k.2.1, k.2.2.1, k.2.2.2⟩
  · obtain ⟨m1, m2⟩ := ioF_mem h
    have k := List.all_eq_true.mp (List.all_eq_true.mp p4 t m1) c m2
    rcases Bool.or_eq_true_iff.mp k with k | k
    · exact (F.tyab k e1).elim
    rcases Bool.or_eq_true_iff.mp k with k | k
    · exact (F.tyab k e2).elim
    obtain ⟨k1, k⟩ := Bool.and_eq_true_iff.mp k
    obtain ⟨k2, k⟩ := Bool.and_eq_true_iff.mp k
    rw [F.tyv k1 e1, F.tyv k2 e2, of_decide_eq_true k]
    exact h
  · have k := p3 _ (of_decide_eq_true h)
    unfold nfB at k
    rcases Bool.or_eq_true_iff.mp k with k | k
    · rw [F.abs k] at e1; cases e1
    rcases Bool.or_eq_true_iff.mp k with k | k
    · exact (F.tyab k e2).elim
    obtain ⟨k1, k⟩ := Bool.and_eq_true_iff.mp k
    obtain ⟨k2, k⟩ := Bool.and_eq_true_iff.mp k
    rw [at_ k1 e1, F.tyv k2 e2]
    exact k
  · exact ⟨_, F.glo (p7 _ (of_decide_eq_true h))⟩
  · obtain ⟨m1, m2⟩ := isxF_mem h
    have k := List.all_eq_true.mp (List.all_eq_true.mp p5 c m1) x m2
    rcases Bool.or_eq_true_iff.mp k with k | k
    · rw [F.abs k] at e1; cases e1
    rcases Bool.or_eq_true_iff.mp k with k | k
    · rw [F.abs k] at e2; cases e2
    obtain ⟨k1, k⟩ := Bool.and_eq_true_iff.mp k
    obtain ⟨k2, k⟩ := Bool.and_eq_true_iff.mp k
    rw [F.glo k1] at e1
    rw [F.glo k2] at e2
    cases e1
    cases e2
    rw [of_decide_eq_true k]
    exact h
  · exact F.abs (p8 _ (of_decide_eq_true h))
end
end KN
set_option maxHeartbeats 200000
namespace KN
open PySem PySem.Spec PyProof.Rows L2
section
variable {file : Str} {W : CW} {B : LB} {qs : List DefQ} {xs : List ExD} {K : PySem.W.Frag} {mg : Str → Option Value} {P : Program} {w : World} {base : Heap}
/-! ### exceptions -/
def ExOk (P : Program) (w : World) (K : PySem.W.Frag) (mg : Str → Option Value) (base : Heap) (l : List (Str × List Str)) : Prop := ∀ p ∈ l, ∃ C, mg p.1 = some (.ref C) ∧ (p.2 ≠ [] → ExS P w K mg base 2 C p.2)
theorem ExOk.nil : ExOk P w K mg base [] := fun p h => by cases h
theorem ExOk.cons {c : Str} {fl : List Str} {l : List (Str × List Str)} (h : ∃ C, mg c = some (.ref C) ∧ ExS P w K mg base 2 C fl) (r : ExOk P w K mg base l) : ExOk P w K mg base ((c, fl) :: l) := fun p hp => by
  rcases List.mem_cons.mp hp with rfl | hp
  · obtain ⟨C, a, b⟩ := h
    exact ⟨C, a, fun _ => b⟩
  · exact r p hp
theorem ExOk.bare {c : Str} {l : List (Str × List Str)} (h : ∃ C, mg c = some (.ref C)) (r : ExOk P w K mg base l) : ExOk P w K mg base ((c, []) :: l) := fun p hp => by
  rcases List.mem_cons.mp hp with rfl | hp
  · obtain ⟨C, a⟩ := h
    exact ⟨C, a, fun z => absurd rfl z⟩
  · exact r p hp
theorem ExS.mono {t t' : Nat} {C : Addr} {fl : List Str} (F : ExS P w K mg base t C fl) (h : t ≤ t') : ExS P w K mg base t' C fl := by
  obtain ⟨fI, fd, ps, k, h1, h2, h3, h4, h5, h6⟩ := F.run
  exact ⟨F.oex, F.xf, F.fno, fI, fd, ps, k, h1, h2, h3, h4, Nat.le_trans h5 h, h6⟩
theorem ExOk.statX {E : Ents} {top : Nat} (h : ExOk P w K mg base B.exf) (ht : 2 ≤ top) : StatX (mkG W B E top) P w K mg base := ⟨fun c fl e => by
  obtain ⟨C, a, b⟩ := h _ (look1_mem e)
  exact ⟨C, a, fun z => (b z).mono ht⟩⟩
theorem Fx.bare (F : Fx file W B qs xs K mg) {c : Str} (h : (c, ([] : List Str)) ∈ B.exf) : ∃ C, mg c = some (.ref C) := ⟨_, F.glo (F.parts.2.2.2.2.2.2.2.2 _ h)⟩
theorem Fx.ex_ok (F : Fx file W B qs xs K mg) {x : ExD} (hx : x ∈ xs) (hat : x.d.at_ = .meth x.cls "__init__") (hfile : (P.main.file : Str) = file) (htop : (P.main.scope.names.lookup ("super" : Str)).isSome = false) (hsup : ("super" : Str) ∈ B.blt)
    {ps : List Str} (S : EiScope ps x.d.scope) {p0 p1 p2 apos pos pos' : Pos} {j : Nat} {nm : Str} {rest : List Stmt} {ar : Arg} {pl : Sem Bool}
    (hbody : x.d.body = .Expr (.Call (.Attribute (.Call (.Name "super" p0) [] [] p1) "__init__" apos) [.Constant (.str nm) j p2] [] pos) pos' :: rest)
    (hev : ∀ f cd cc L, eval (.Call (.Attribute (.Call (.Name "super" p0) [] [] p1) "__init__" apos) [.Constant (.str nm) j p2] [] pos) (PySem.W.ksEnv x.d.qual x.d.scope L f cd cc) = (do
      let ov ← attributeBase (.Call (.Name "super" p0) [] [] p1) "__init__" (PySem.W.ksEnv x.d.qual x.d.scope L f cd cc) (eval (.Call (.Name "super" p0) [] [] p1) (PySem.W.ksEnv x.d.qual x.d.scope L f cd cc))
      standAt apos.atName
      let (fx, first) ← holding [ov] (getMethod ov "__init__" pl)
      callWith pos fx first (backTo pos (starEach [.Constant (.str nm) j p2] (PySem.W.ksEnv x.d.qual x.d.scope L f cd cc))) []))
    (hpar : (x.d.params.posonlyargs ++ x.d.params.args).head? = some ar) (h0 : ps[0]? = some ar.arg) (hl : ps.length = x.fl.length + 1)
    (hb : ∀ (kV doc pm : Value) (an : Option Addr) (cdv ct : Value) (cc : Addr) (us : List Value), us.length = ps.length → bindArgs (PySem.W.ksFn x.d.name x.d.qual x.d.params x.d.body x.d.scope .none kV doc pm an cdv ct cc) ⟨us, []⟩ = pure (ps.zip us))
    (hrest : ∀ X : Cx, X.N = ps → X.env.scope = x.d.scope → PSs X rest (tFlds X.K 1 x.fl)) : ∃ C, mg x.cls = some (.ref C) ∧ ExS P w K mg base 2 C x.fl := by
  obtain ⟨e1, e2⟩ := F.exd hx
  have g := F.glo (show gloB K x.cls = true from (Bool.and_eq_true_iff.mp e2).1)
  obtain ⟨a1, a2, a3, a4, a5, oc, od, kV, doc, pm, an, cdv, ct, cc, osl, T, hcd, lk⟩ := exi_ok (P := P) hat hfile htop e1 e2
  refine ⟨_, g, a1, a2, a3, _, _, ps, 1, a4, a5, hl, .all (hb kV doc pm an cdv ct cc), Nat.le_refl _, ?_⟩
  exact ei_fn (k := 0) hbody (hev _ _ _) S T lk hcd hpar h0 (F.abs (F.parts.2.2.2.2.2.2.2.1 _ hsup)) fun A outer s H E => hrest _ rfl rfl
theorem okv {sc : Scope} {x : Str} (h : sc.names.lookup x = some .local) : Vis sc x := .inl h
theorem rest1 {ps : List Str} {sc : Scope} {a b f : Str} {q1 q2 q3 q4 : Pos} (h0 : ps[0]? = some a) (h1 : ps[1]? = some b) (la : sc.names.lookup a = some .local) (lb : sc.names.lookup b = some .local)
    (da : (a == ("__debug__" : Str)) = false ∧ (a == ("__classdict__" : Str)) = false) (db : (b == ("__debug__" : Str)) = false ∧ (b == ("__classdict__" : Str)) = false) (X : Cx) (hN : X.N = ps) (hS : X.env.scope = sc) :
    PSs X [.Assign [.Attribute (.Name a q1) f q2] (.Name b q3) q4] (tFlds X.K 1 [f]) := by
  subst hN hS
  exact pss_one (ps_ost (pe_var h0 (okv la) da.1 da.2) (pe_var h1 (okv lb) db.1 db.2) (swaps_no rfl))
theorem rest2 {ps : List Str} {sc : Scope} {a b c f g : Str} {q1 q2 q3 q4 r1 r2 r3 r4 : Pos} (h0 : ps[0]? = some a) (h1 : ps[1]? = some b) (h2 : ps[2]? = some c) (la : sc.names.lookup a = some .local) (lb : sc.names.lookup b = some .local) (lc : sc.names.lookup c = some .local)
    (da : (a == ("__debug__" : Str)) = false ∧ (a == ("__classdict__" : Str)) = false) (db : (b == ("__debug__" : Str)) = false ∧ (b == ("__classdict__" : Str)) = false) (dc : (c == ("__debug__" : Str)) = false ∧ (c == ("__classdict__" : Str)) = false) (X : Cx) (hN : X.N = ps) (hS : X.env.scope = sc) :
    PSs X [.Assign [.Attribute (.Name a q1) f q2] (.Name b q3) q4, .Assign [.Attribute (.Name a r1) g r2] (.Name c r3) r4] (tFlds X.K 1 [f, g]) := by
  subst hN hS
  exact pss_cons (ps_ost (pe_var h0 (okv la) da.1 da.2) (pe_var h1 (okv lb) db.1 db.2) (swaps_no rfl)) (pss_one (ps_ost (pe_var h0 (okv la) da.1 da.2) (pe_var h2 (okv lc) dc.1 dc.2) (swaps_no rfl)))
/-! ### defs -/
theorem Fx.run (F : Fx file W B qs xs K mg) (hx : ExOk P w K mg base B.exf) {E : Ents} {top : Nat} (hE : EntsOk P w K mg base top E) (h2 : 2 ≤ top) {d : DefQ} {N ps : List Str} (S : FnScope N ps d.scope) {n lim fu : Nat} (hn : ps.length = n) {g : DFn}
    (hg : g = fnD n N.length (cSs (mkG W B E top) N lim fu true d.scope d.body)) {dvs : List V} {fd : FuncData} (Q : FunQ K d dvs fd) : FnOk P w K mg base (L2.CX P w) (top + 1) (d.at_.ad K) fd ps (spOf P w K mg n g) := by
  obtain ⟨oc, od, dV, kV, doc, pm, an, cdv, ct, osl, rfl, lk, hcd, _, _⟩ := Q.fn.ex
  exact fn_plain (F.statG hE) (hx.statX h2) (Nat.le_refl _) lk hcd S hn hg
/-- how many arguments, and what the defaults fill up -/
def Bnd (d : DefQ) (ps : List Str) (j : Nat) : Prop :=
  (d.dfl = [] ∧ ∀ (kV doc pm : Value) (an : Option Addr) (cdv ct : Value) (us : List Value), us.length = ps.length → bindArgs (PySem.W.fnOf d.name d.qual d.params d.body d.scope .none kV doc pm an cdv ct) ⟨us, []⟩ = pure (ps.zip us)) ∨
  (d.dfl ≠ [] ∧ ∃ n, n + (d.dfl.length - j) = ps.length ∧ ∀ (T : Addr) (kV doc pm : Value) (an : Option Addr) (cdv ct : Value) (us its : List Value), us.length = n → its.length = d.dfl.length →
      ∃ k, bindArgs (PySem.W.fnOf d.name d.qual d.params d.body d.scope (.ref T) kV doc pm an cdv ct) ⟨us, []⟩ = seqItems? (.ref T) >>= k ∧ k (some its.toArray) = pure (ps.zip (us ++ its.drop j)))
theorem bnd_ok {d : DefQ} {ps : List Str} {j : Nat} {dvs : List V} {fd : FuncData} (Q : FunQ K d dvs fd) (h : Bnd d ps j) : ∃ ds, Vals (dvs.drop j) ds ∧ Binds K fd ps ds := by
  have hl : d.dfl.length = dvs.length := (Q.rep [] (fun _ => none)).len
  rcases h with ⟨e, h⟩ | ⟨e, n, h1, h2⟩
  · rw [e] at hl
    have e2 : dvs = [] := List.length_eq_zero_iff.mp hl.symm
    subst e2
    exact ⟨[], by rw [List.drop_nil]; exact .nil, Q.fn.bindsN h⟩
  · rw [hl] at h1 h2
    exact Q.fn.binds1 n j (fun z => e (List.length_eq_zero_iff.mp (by rw [hl, z]; rfl))) h1 h2
theorem Fx.fnS (F : Fx file W B qs xs K mg) (hx : ExOk P w K mg base B.exf) {E : Ents} {top : Nat} (hE : EntsOk P w K mg base top E) (h2 : 2 ≤ top) {d : DefQ} {N ps : List Str} (S : FnScope N ps d.scope) {n lim fu j : Nat} (hn : ps.length = n) {g : DFn}
    (hg : g = fnD n N.length (cSs (mkG W B E top) N lim fu true d.scope d.body)) {dvs : List V} {fd : FuncData} (Q : FunQ K d dvs fd) (hb : Bnd d ps j) : FnS P w K mg base (top + 2) (d.at_.ad K) n (d.dfl.drop j) g := by
  obtain ⟨ds, r, b⟩ := bnd_ok Q hb
  exact ⟨by rw [hg]; exact fnD_ar, fd, ps, top + 1, ds, dvs.drop j, F.run hx hE h2 S hn hg Q, Nat.le_refl _, b, r, fun ρ H => (Q.rep ρ H).drop j⟩
theorem Fx.okFn (F : Fx file W B qs xs K mg) (hx : ExOk P w K mg base B.exf) {E : Ents} {top : Nat} (hE : EntsOk P w K mg base top E) (h2 : 2 ≤ top) {d : DefQ} (hd : d ∈ qs) {x : Str} (hat : d.at_ = .glo x) {N ps : List Str} (S : FnScope N ps d.scope) {n lim fu : Nat} (j : Nat) (hn : ps.length = n) {g : DFn}
    (hg : g = fnD n N.length (cSs (mkG W B E top) N lim fu true d.scope d.body)) (hb : Bnd d ps j) {dd : List DV} (hdd : dd = d.dfl.drop j) : OkFn P w K mg base (top + 2) x dd g := by
  subst hdd
  obtain ⟨⟨dvs, fd, Q⟩, l⟩ := F.at_ hd
  rw [hat] at l
  have f := F.fnS hx hE h2 S hn hg Q hb
  have kp := Q.fn.kp
  rw [hat] at f kp
  exact ⟨_, n, F.glo l, kp, f⟩
theorem Fx.okMk (F : Fx file W B qs xs K mg) (hx : ExOk P w K mg base B.exf) {E : Ents} {top : Nat} (hE : EntsOk P w K mg base top E) (h2 : 2 ≤ top) {d : DefQ} (hd : d ∈ qs) {c : Str} (hat : d.at_ = .meth c "__init__") {N ps : List Str} (S : FnScope N ps d.scope) {n lim fu : Nat} (j : Nat) (hn : ps.length = n) {g : DFn}
    (hg : g = fnD n N.length (cSs (mkG W B E top) N lim fu true d.scope d.body)) (hb : Bnd d ps j) {dd : List DV} (hdd : dd = d.dfl.drop j) : OkMk P w K mg base (top + 2) c dd g := by
  subst hdd
  obtain ⟨⟨dvs, fd, Q⟩, l⟩ := F.at_ hd
  rw [hat] at l
  obtain ⟨l1, l2⟩ := Bool.and_eq_true_iff.mp l
  rw [if_pos rfl] at l2
  have f := F.fnS hx hE h2 S hn hg Q hb
  rw [hat] at f
  exact ⟨_, _, n, F.glo l1, He.mkr_ok l2, f⟩
theorem Fx.okMt (F : Fx file W B qs xs K mg) (hx : ExOk P w K mg base B.exf) {E : Ents} {top : Nat} (hE : EntsOk P w K mg base top E) (h2 : 2 ≤ top) {d : DefQ} (hd : d ∈ qs) {c m : Str} (hat : d.at_ = .meth c m) (hm : m ≠ "__init__") {N ps : List Str} (S : FnScope N ps d.scope) {n lim fu : Nat} (hn : ps.length = n) {g : DFn}
    (hg : g = fnD n N.length (cSs (mkG W B E top) N lim fu true d.scope d.body)) (hb : Bnd d ps 0) (hdf : d.dfl = []) : OkMt P w K mg base (top + 2) c m g := by
  obtain ⟨⟨dvs, fd, Q⟩, l⟩ := F.at_ hd
  rw [hat] at l
  obtain ⟨l1, l2⟩ := Bool.and_eq_true_iff.mp l
  rw [if_neg hm] at l2
  obtain ⟨l3, l4⟩ := Bool.and_eq_true_iff.mp l2
  have f := F.fnS hx hE h2 S hn hg Q hb
  rw [hat, hdf] at f
  exact ⟨_, F.glo l1, He.cls_ok l3, _, n, He.meth_ok l4, f⟩
theorem Fx.okPr (F : Fx file W B qs xs K mg) (hx : ExOk P w K mg base B.exf) {E : Ents} {top : Nat} (hE : EntsOk P w K mg base top E) (h2 : 2 ≤ top) {d : DefQ} (hd : d ∈ qs) {c m : Str} (hat : d.at_ = .prop c m) {N ps : List Str} (S : FnScope N ps d.scope) {n lim fu : Nat} (hn : ps.length = n) {g : DFn}
    (hg : g = fnD n N.length (cSs (mkG W B E top) N lim fu true d.scope d.body)) (hb : Bnd d ps 0) (hdf : d.dfl = []) : OkPr P w K mg base (top + 2) c m g := by
  obtain ⟨⟨dvs, fd, Q⟩, l⟩ := F.at_ hd
  rw [hat] at l
  obtain ⟨l1, l2⟩ := Bool.and_eq_true_iff.mp l
  obtain ⟨l3, l4⟩ := Bool.and_eq_true_iff.mp l2
  have r := F.run hx hE h2 S hn hg Q
  have hl := (Q.rep [] (fun _ => none)).len
  rw [hdf] at hl
  have e2 : dvs = [] := List.length_eq_zero_iff.mp hl.symm
  subst e2
  have hB : Binds K fd ps [] := by
    rcases hb with ⟨_, h⟩ | ⟨z, _⟩
    · exact Q.fn.bindsN h
    · exact absurd hdf z
  rw [hat] at r
  unfold propB at l4
  split at l4
  · rename_i p e
    obtain ⟨m1, l4⟩ := Bool.and_eq_true_iff.mp l4
    obtain ⟨m2, m3⟩ := Bool.and_eq_true_iff.mp l4
    split at m3
    · rename_i z rest er
      have ea : Loc.ad K (.prop c m) = z := by
        unfold Loc.ad
        dsimp only
        rw [e]
        dsimp only
        rw [er]
      rw [ea] at r
      exact ⟨_, F.glo l1, He.cls_ok l3, p, z, n, fd, ps, top + 1, ⟨e, of_decide_eq_true m1, of_decide_eq_true m2, rest, er⟩, by rw [hg]; exact fnD_ar, r, Nat.le_refl _, hB⟩
    · cases m3
  · cases l4
end
end KN
set_option maxHeartbeats 200000
namespace KN
open PySem PySem.Spec PyProof.Rows L2
/-! ### a law's entry -/
theorem only_scr {K : PySem.W.Frag} {H : Hp} {a : Addr} {xs : List V} (h : Only H) (r : SqL K H a xs) : SqS K H a xs := by
  rcases r with (z | ⟨o, z⟩) | z
  · rcases h a with e | ⟨o, ys, e⟩ <;> rw [e] at z <;> cases z
  · exact .inl ⟨o, z⟩
  · exact .inr z
theorem sp_law {P : Program} {w : World} {K : PySem.W.Frag} {mg : Str → Option Value} {g : DFn} {H : Hp} {a : Addr} {ns : List Int} (hO : Only H) (hS : SqL K H a (ns.map V.int)) (hg : ∃ S, g [.scr ns] [] = .ok (.bl true) S) :
    spOf P w K mg 1 g [.ref a] H (fun v _ => v = .bl true) fun _ _ _ => False := by
  obtain ⟨S, e⟩ := hg
  refine ⟨rfl, [], [], [.scr ns], ⟨rfl, List.nodup_nil, fun n a o h => by simp at h⟩, .cons (by rw [RepV]; exact ⟨a, rfl, only_scr hO hS⟩) .nil, ?_⟩
  rw [e]
  exact fun ρ' H' _ _ v r => by
    rw [RepV] at r
    exact r
theorem law_entry {l : PySem.W.OpenLaw} {k n : Nat} {q : Program} {loose : List Str} {XP : (Str → Option Value) → Heap → Prop} {dr : DefRec} {x : Str} {file : Str} {W : CW} {B : LB} {qs : List DefQ} {xs : List ExD} {g : DFn} {dl : DefQ}
    (hn : l.most = some 63) (hdf : dr.params.defaults = []) (hr : Room k callerA) (hl : dl ∈ qs) (hat : dl.at_ = .glo dr.name) (hd0 : dl.dfl = [])
    (hb : ∀ (kV doc pm : Value) (an : Option Addr) (cdv ct : Value) (us : List Value), us.length = [x].length → bindArgs (PySem.W.fnOf dl.name dl.qual dl.params dl.body dl.scope .none kV doc pm an cdv ct) ⟨us, []⟩ = pure ([x].zip us))
    (Hf : ∀ (w : World) (mg : Str → Option Value) (K : PySem.W.Frag) (base : Heap), Fx file W B qs xs K mg → ∀ dvs fd, FunQ K dl dvs fd → FnOk l.prog w K mg base (L2.CX l.prog w) k (dl.at_.ad K) fd [x] (spOf l.prog w K mg 1 g))
    (hg : ∀ ns : List Int, ns.length ≤ 63 → ∃ S, g [.scr ns] [] = .ok (.bl true) S) :
    PySem.W.WalkO q loose XP (hookQ n file W B qs xs).says l.row.toRowW dr [] (fun f vs => PySem.call f vs) := by
  refine Att.attach_call hn hdf fun w s₀ s₁ mg mb fa o pm cd doc a vs ns G Y _ _ _ hmg hobj hints hlen hgen => ?_
  obtain ⟨K, KX, says⟩ := Y
  have F : Fx file W B qs xs K mg := ⟨⟨_, KX, G.T.g⟩, says⟩
  obtain ⟨⟨dvs, fd, Q⟩, lk⟩ := F.at_ hl
  have hF := fun base => Hf w mg K base F dvs fd Q
  rw [hat] at lk
  have e := F.glo lk
  rw [hmg] at e
  have e2 : fa = dl.at_.ad K := by
    rw [hat]
    cases e
    rfl
  rw [← e2] at hF
  have e3 : dvs = [] := List.length_eq_zero_iff.mp (by rw [← (Q.rep [] (fun _ => none)).len, hd0]; rfl)
  subst e3
  exact law_call KX G.T.g G.T.b G.T.builtins G.T.nolimit hgen hobj hints (Nat.le_trans hlen (by decide)) hr (fun base _ _ => hF base) (fun s u => Q.fn.bindsA hb s [u] rfl) (fun H hO hS => sp_law hO hS (hg ns hlen)) fun H e s' ⟨_, _, _, _, _, _, _, _, _, _, _, _, z⟩ => z
end KN
set_option maxHeartbeats 200000
namespace KN
open PySem PySem.Spec PyProof.Rows L2
/-! ### parts of the text -/
def sA : Stmt → Arguments
  | .FunctionDef _ a _ _ _ _ _ _ _ _ => a
  | _ => ⟨[], [], none, [], [], none, []⟩
def sB : Stmt → List Stmt
  | .FunctionDef _ _ b _ _ _ _ _ _ _ => b
  | _ => []
def sS : Stmt → Scope
  | .FunctionDef _ _ _ _ _ _ s _ _ _ => s
  | _ => ⟨.function, [], false, false, []⟩
def cb : Stmt → Nat → Stmt
  | .ClassDef _ _ _ b _ _ _ _ _ _ _, j => b.getD j (.Pass ⟨0, 0, 0, 0⟩)
  | _, _ => .Pass ⟨0, 0, 0, 0⟩
def noT : Str → Str → Option DFn := look2 []
def scOk (N ps : List Str) (sc : Scope) : Bool := decide (sc.kind = .function) && (!sc.isCoroutine && (!sc.isGenerator && (decide N.Nodup && (decide (N.take ps.length = ps) &&
  (ps.all (fun x => decide (sc.names.lookup x = some .local) || decide (sc.names.lookup x = some .cell)) && sc.names.all fun y => decide (y.2 ≠ .free))))))
theorem scOk_ok {N ps : List Str} {sc : Scope} (h : scOk N ps sc = true) : FnScope N ps sc := by
  unfold scOk at h
  simp only [Bool.and_eq_true, decide_eq_true_eq, Bool.not_eq_true', List.all_eq_true, Bool.or_eq_true] at h
  obtain ⟨a, b, c, d, e, f, g⟩ := h
  exact ⟨a, b, c, d, e, f, g⟩
def eiOk (ps : List Str) (sc : Scope) : Bool := decide (sc.kind = .function) && (!sc.isCoroutine && (!sc.isGenerator && (decide ps.Nodup && (ps.all (fun x => decide (sc.names.lookup x = some .local)) && (sc.names.all (fun x => decide (x.2 ≠ .cell)) &&
  (decide (sc.names.lookup ("super" : Str) = some .globalImplicit) && (decide (sc.names.lookup ("__class__" : Str) = some .free) && sc.names.all fun x => decide (x.2 = .free → x.1 = ("__class__" : Str)))))))))
theorem eiOk_ok {ps : List Str} {sc : Scope} (h : eiOk ps sc = true) : EiScope ps sc := by
  unfold eiOk at h
  simp only [Bool.and_eq_true, decide_eq_true_eq, Bool.not_eq_true', List.all_eq_true] at h
  obtain ⟨a, b, c, d, e, f, g, i, j⟩ := h
  exact ⟨a, b, c, d, e, f, g, i, j⟩
theorem lnil {α : Type} {Q : α → Prop} : ∀ p ∈ ([] : List α), Q p := fun p h => by cases h
theorem lcons {α : Type} {Q : α → Prop} {a : α} {l : List α} (h : Q a) (r : ∀ p ∈ l, Q p) : ∀ p ∈ a :: l, Q p := fun p hp => by
  rcases List.mem_cons.mp hp with rfl | hp
  · exact h
  · exact r p hp
section
variable {file : Str} {W : CW} {B : LB} {qs : List DefQ} {xs : List ExD} {K : PySem.W.Frag} {mg : Str → Option Value} {P : Program} {w : World} {base : Heap}
/-- a def that calls itself: no fuel -/
theorem Fx.okFn0 (F : Fx file W B qs xs K mg) {d : DefQ} (hd : d ∈ qs) {x : Str} (hat : d.at_ = .glo x) {ps : List Str} (top : Nat) (ht : 1 ≤ top) (hb : Bnd d ps 0) (hdf : d.dfl = []) : OkFn P w K mg base top x [] fun _ _ => .bad := by
  obtain ⟨⟨dvs, fd, Q⟩, l⟩ := F.at_ hd
  obtain ⟨ds, r, b⟩ := bnd_ok Q hb
  have kp := Q.fn.kp
  have e3 : dvs = [] := List.length_eq_zero_iff.mp (by rw [← (Q.rep [] (fun _ => none)).len, hdf]; rfl)
  rw [hat] at l kp
  subst e3
  refine ⟨_, ps.length, F.glo l, kp, fun _ _ _ => rfl, fd, ps, 0, ds, [], ⟨fun vs H Q E h => h.1, fun A outer s H args us vs Q E hr he hb hv hs => ?_⟩, ht, b, r, fun ρ H => .nil⟩
  obtain ⟨_, ρ, S, dl, _, _, z⟩ := hs
  exact z.elim
end
end KN
set_option maxHeartbeats 0
namespace KN
open PySem PySem.Spec PyProof.Rows L2
def CWP : CW := ⟨["Rule", "Scene", "Done", "Reached", "Page", "Store"], [("Rule", "in_turn"), ("Rule", "nights"), ("Rule", "some_cares"), ("Scene", "meant"), ("Scene", "names"), ("Scene", "places"), ("Scene", "pointer"), ("Scene", "rule_now"), ("Scene", "turn"), ("Done", "behind"), ("Done", "some"), ("Reached", "first_faults"), ("Reached", "goals"), ("Reached", "histories"), ("Reached", "order"), ("Reached", "rule_asked"), ("Page", "deed"), ("Page", "fresh"), ("Page", "lost_rows"), ("Page", "meant"), ("Page", "names"), ("Page", "numbers"), ("Page", "pointers"), ("Page", "resting_now"), ("Page", "turn"), ("Store", "pages"), ("Store", "rule_now")], [("Rule", .bi "NoneType"), ("Rule", .bi "bool"), ("Rule", .bi "int"), ("Rule", .bi "str"), ("Rule", .bi "tuple"), ("Rule", .bi "list"), ("Rule", .bi "dict"), ("Rule", .own "Rule")], ["PointError", "InvalidRule", "InvalidHistory", "InvalidDeed", "UnknownPart", "InvalidWord", "NotRight", "BadKinds", "UnknownKind", "UnknownThing", "BadNumber", "BadName", "BadRow", "UnknownRow", "BadDeed", "InvalidLine"], "PointError"⟩
def b__wall : DFn := fnD 1 1 (mWhile (mTest (mCst (.bl true))) (mNext) 100000)
def b_is_integer : DFn := fnD 1 1 (mRet (mAndV (mIsi (ioF CWP.cls) CWP.ic (.bi "int") (mVar 0)) (mNotV (mIsi (ioF CWP.cls) CWP.ic (.bi "bool") (mVar 0)))))
def b_is_between : DFn := fnD 3 3 (mRet (mAndV (mCallF b_is_integer [] (mCons (mVar 0) (mNil))) (mChain (oCmp fun i j => decide (i ≤ j)) (oCmp fun i j => decide (i ≤ j)) (mVar 1) (mVar 0) (mVar 2))))
def b_are_words : DFn := fnD 2 4 (mRet (mAndV (mIsi (ioF CWP.cls) CWP.ic (.bi "tuple") (mVar 0)) (mCallB oAll (mCons (mLc (mSrc (mVar 0)) [2, 3] (gSet 3) (mYes) (mAndV (mIsi (ioF CWP.cls) CWP.ic (.bi "str") (mVar 3)) (mBin (oInA false) (mVar 3) (mVar 1)))) (mNil)))))
def b_look_at_rule : DFn := fnD 3 3 (mSeq (mIfS (mOrT (mNotT (mTest (mCallF b_are_words [] (mCons (mVar 0) (mCons (mCst (.tup [.str ("copy" : Str), .str ("rename" : Str), .str ("renumber" : Str), .str ("take" : Str)])) (mNil)))))) (mTest (mBin (oEq true) (mCallB oList (mCons (mVar 0) (mNil))) (mSortSet (mCons (mVar 0) (mNil)))))) (mRaise "InvalidRule" ["part"] (mCons (mCst (.str "cares")) (mNil))) (mNext)) (mSeq (mIfS (mNotT (mTest (mCallF b_is_between [] (mCons (mVar 1) (mCons (mCst (.int 0)) (mCons (mCst (.int 2)) (mNil))))))) (mRaise "InvalidRule" ["part"] (mCons (mCst (.str "rest")) (mNil))) (mNext)) (mIfS (mOrT (mNotT (mTest (mCallF b_are_words [] (mCons (mVar 2) (mCons (mCst (.tup [.str ("free" : Str), .str ("sweep" : Str)])) (mNil)))))) (mNotT (mTest (mChain (oCmp fun i j => decide (i ≤ j)) (oCmp fun i j => decide (i ≤ j)) (mCst (.int 1)) (mCallB oLen (mCons (mVar 2) (mNil))) (mCst (.int 3)))))) (mRaise "InvalidRule" ["part"] (mCons (mCst (.str "works")) (mNil))) (mNext))))
def b_every_deed : DFn := fnD 0 3 (mSeq (mSet 0 (mLst (mCons (mTup (mCons (mCst (.str "copy")) (mNil))) (mCons (mTup (mCons (mCst (.str "drop")) (mNil))) (mCons (mTup (mCons (mCst (.str "make")) (mCons (mCst (.int 0)) (mNil)))) (mCons (mTup (mCons (mCst (.str "make")) (mCons (mCst (.int 1)) (mNil)))) (mNil))))))) (mSeq (mExp (mCallM noT "extend" (mVar 0) (mCons (mLc (mSrc (mCst (.tup [.tup [.int 0, .int 1], .tup [.int 0, .int 2], .tup [.int 1, .int 1]]))) [1, 2] (gSet 2) (mYes) (mTup (mCons (mCst (.str "point")) (mStar (mVar 2) (mNil))))) (mNil)))) (mSeq (mExp (mCallM noT "extend" (mVar 0) (mCons (mLst (mCons (mTup (mCons (mCst (.str "rename")) (mCons (mCst (.int 0)) (mNil)))) (mCons (mTup (mCons (mCst (.str "rename")) (mCons (mCst (.int 1)) (mNil)))) (mCons (mTup (mCons (mCst (.str "renumber")) (mCons (mCst (.int 1)) (mNil)))) (mCons (mTup (mCons (mCst (.str "renumber")) (mCons (mCst (.int 2)) (mNil)))) (mNil)))))) (mNil)))) (mSeq (mExp (mCallM noT "extend" (mVar 0) (mCons (mLc (mSrc (mCst (.tup [.tup [.int 0, .int 1], .tup [.int 0, .int 2], .tup [.int 1, .int 1]]))) [1, 2] (gSet 2) (mYes) (mTup (mCons (mCst (.str "take")) (mStar (mVar 2) (mNil))))) (mNil)))) (mRet (mLst (mStar (mVar 0) (mCons (mTup (mCons (mCst (.str "work")) (mNil))) (mNil)))))))))
def b_is_deed : DFn := fnD 1 3 (mSeq (mIfS (mOrT (mNotT (mTest (mIsi (ioF CWP.cls) CWP.ic (.bi "tuple") (mVar 0)))) (mOrT (mTest (mBin (oEqF noT CWP.nf CWP.ic) (mCallB oLen (mCons (mVar 0) (mNil))) (mCst (.int 0)))) (mNotT (mTest (mIsi (ioF CWP.cls) CWP.ic (.bi "str") (mBin oIx (mVar 0) (mCst (.int 0)))))))) (mRet (mCst (.bl false))) (mNext)) (mSeq (mIfS (mOrT (mTest (mBin (oEq true) (mCallM noT "get" (bE) (mCons (mBin oIx (mVar 0) (mCst (.int 0))) (mCons (mCst (.int 0)) (mNil)))) (mCallB oLen (mCons (mVar 0) (mNil))))) (mNotT (mTest (mCallB oAll (mCons (mLc (mSrc (mSl (mVar 0) (mPart (mCst (.int 1))) (mNoP))) [1, 2] (gSet 2) (mYes) (mCallF b_is_between [] (mCons (mVar 2) (mCons (mCst (.int 0)) (mCons (mCst (.int 2)) (mNil)))))) (mNil)))))) (mRet (mCst (.bl false))) (mNext)) (mRet (mBin (oInA false) (mVar 0) (mCallF b_every_deed [] (mNil))))))
def b_place_led_to : DFn := fnD 3 4 (mSeq (mIfS (mOrT (mTest (mIsN false (mVar 2))) (mTest (mBin (oInA true) (mBin oIx (mVar 2) (mCst (.int 0))) (mVar 0)))) (mRet (mCst .non)) (mNext)) (mSeq (mSet 3 (mTup (mCons (mCallM noT "index" (mVar 0) (mCons (mBin oIx (mVar 2) (mCst (.int 0))) (mNil))) (mCons (mBin oIx (mVar 2) (mCst (.int 1))) (mNil))))) (mRet (mIf (mAndT (mTest (mBin (oInA false) (mVar 3) (mCst (.tup [.tup [.int 0, .int 1], .tup [.int 0, .int 2], .tup [.int 1, .int 1]])))) (mTest (mBin (oEqF noT CWP.nf CWP.ic) (mBin oIx (mVar 1) (mCallM noT "index" (mCst (.tup [.tup [.int 0, .int 1], .tup [.int 0, .int 2], .tup [.int 1, .int 1]])) (mCons (mVar 3) (mNil)))) (mCst (.str ("thing" : Str)))))) (mVar 3) (mCst .non)))))
def b_with_place : DFn := fnD 3 4 (mSeq (mSet 3 (mCallM noT "index" (mCst (.tup [.tup [.int 0, .int 1], .tup [.int 0, .int 2], .tup [.int 1, .int 1]])) (mCons (mVar 1) (mNil)))) (mRet (mTup (mStar (mSl (mVar 0) (mNoP) (mPart (mVar 3))) (mCons (mVar 2) (mStar (mSl (mVar 0) (mPart (mBin oAdd (mVar 3) (mCst (.int 1)))) (mNoP)) (mNil)))))))
def b_has_thing : DFn := fnD 2 2 (mRet (mBin (oEqF noT CWP.nf CWP.ic) (mBin oIx (mVar 0) (mCallM noT "index" (mCst (.tup [.tup [.int 0, .int 1], .tup [.int 0, .int 2], .tup [.int 1, .int 1]])) (mCons (mVar 1) (mNil)))) (mCst (.str ("thing" : Str)))))
def b_Done___init__ : DFn := fnD 3 3 (mSeq (mFld CWP.fl "behind" (mVar 1) (mVar 0)) (mFld CWP.fl "some" (mVar 2) (mVar 0)))
def b_Scene___init__ : DFn := fnD 3 3 (mSeq (mFld CWP.fl "rule_now" (mVar 1) (mVar 0)) (mAsg (mVar 2) (gTupD 5 (gConsD (gFld CWP.fl "names" (mVar 0)) (gConsD (gFld CWP.fl "places" (mVar 0)) (gConsD (gFld CWP.fl "pointer" (mVar 0)) (gConsD (gFld CWP.fl "meant" (mVar 0)) (gConsD (gFld CWP.fl "turn" (mVar 0)) (gNilD)))))))))
def b_Scene_led_to : DFn := fnD 1 1 (mRet (mCallF b_place_led_to [] (mCons (mAttr noT CWP.fl "names" (mVar 0)) (mCons (mAttr noT CWP.fl "places" (mVar 0)) (mCons (mAttr noT CWP.fl "pointer" (mVar 0)) (mNil))))))
def b_Scene_looks_after : DFn := fnD 2 2 (mRet (mBin (oInA false) (mVar 1) (mAttr noT CWP.fl "some_cares" (mAttr noT CWP.fl "rule_now" (mVar 0)))))
def b_Scene_copy : DFn := fnD 1 8 (mSeq (mSet 1 (mCallM (look2 [("Scene", "led_to", b_Scene_led_to), ("Scene", "looks_after", b_Scene_looks_after)]) "led_to" (mVar 0) (mNil))) (mSeq (mSet 2 (bE)) (mSeq (mFor (mSrc (mTup (mCons (mCst (.int 0)) (mCons (mCst (.int 1)) (mNil))))) (gSet 3) (mSeq (mSet 4 (mLc (mSrc (mCst (.tup [.tup [.int 0, .int 1], .tup [.int 0, .int 2], .tup [.int 1, .int 1]]))) [5, 6] (gSet 6) (mAndT (mTest (mBin (oEqF (look2 [("Scene", "led_to", b_Scene_led_to), ("Scene", "looks_after", b_Scene_looks_after)]) CWP.nf CWP.ic) (mBin oIx (mVar 6) (mCst (.int 0))) (mVar 3))) (mTest (mCallF b_has_thing [] (mCons (mAttr noT CWP.fl "places" (mVar 0)) (mCons (mVar 6) (mNil)))))) (mVar 6))) (mExp (mCallM (look2 [("Scene", "led_to", b_Scene_led_to), ("Scene", "looks_after", b_Scene_looks_after)]) "update" (mVar 2) (mCons (bE) (mNil)))))) (mSeq (mFld CWP.fl "places" (mCallB oTuple (mCons (mLc (mSrc (mCst (.tup [.tup [.int 0, .int 1], .tup [.int 0, .int 2], .tup [.int 1, .int 1]]))) [5, 6] (gSet 6) (mYes) (mIf (mTest (mBin (oInA false) (mVar 6) (mCallM (look2 [("Scene", "led_to", b_Scene_led_to), ("Scene", "looks_after", b_Scene_looks_after)]) "values" (mVar 2) (mNil)))) (mCst (.str ("thing" : Str))) (mCst (.int 0)))) (mNil))) (mVar 0)) (mSeq (mFld CWP.fl "meant" (mCallM (look2 [("Scene", "led_to", b_Scene_led_to), ("Scene", "looks_after", b_Scene_looks_after)]) "get" (mVar 2) (mCons (mAttr noT CWP.fl "meant" (mVar 0)) (mCons (mCst .non) (mNil)))) (mVar 0)) (mSeq (mIfS (mAndT (mTest (mIsN true (mAttr noT CWP.fl "pointer" (mVar 0)))) (mTest (mCallM (look2 [("Scene", "led_to", b_Scene_led_to), ("Scene", "looks_after", b_Scene_looks_after)]) "looks_after" (mVar 0) (mCons (mCst (.str "copy")) (mNil))))) (mFld CWP.fl "pointer" (mIf (mTest (mIsN false (mVar 1))) (mCst .non) (mTup (mCons (mBin oIx (mAttr noT CWP.fl "pointer" (mVar 0)) (mCst (.int 0))) (mCons (mBin oIx (mBin oIx (mVar 2) (mVar 1)) (mCst (.int 1))) (mNil))))) (mVar 0)) (mNext)) (mRet (mCst (.bl true)))))))))
def b_Scene_drop : DFn := fnD 1 1 (mSeq (mIfS (mTest (mIsN false (mAttr noT CWP.fl "pointer" (mVar 0)))) (mRet (mCst (.bl false))) (mNext)) (mSeq (mFld CWP.fl "pointer" (mCst .non) (mVar 0)) (mRet (mCst (.bl true)))))
def b_Scene_make : DFn := fnD 2 5 (mSeq (mSet 2 (mLc (mSrc (mCst (.tup [.tup [.int 0, .int 1], .tup [.int 0, .int 2], .tup [.int 1, .int 1]]))) [3, 4] (gSet 4) (mAndT (mTest (mBin (oEqF noT CWP.nf CWP.ic) (mBin oIx (mVar 4) (mCst (.int 0))) (mVar 1))) (mTest (mBin (oEqF noT CWP.nf CWP.ic) (mBin oIx (mAttr noT CWP.fl "places" (mVar 0)) (mCallM noT "index" (mCst (.tup [.tup [.int 0, .int 1], .tup [.int 0, .int 2], .tup [.int 1, .int 1]])) (mCons (mVar 4) (mNil)))) (mCst (.int 0))))) (mVar 4))) (mSeq (mIfS (mTest (mBin (oEqF noT CWP.nf CWP.ic) (mVar 2) (mLst (mNil)))) (mRet (mCst (.bl false))) (mNext)) (mSeq (mFld CWP.fl "places" (mCallF b_with_place [] (mCons (mAttr noT CWP.fl "places" (mVar 0)) (mCons (mBin oIx (mVar 2) (mCst (.int 0))) (mCons (mCst (.str ("thing" : Str))) (mNil))))) (mVar 0)) (mRet (mCst (.bl true))))))
def b_Scene_point : DFn := fnD 2 2 (mSeq (mIfS (mNotT (mTest (mCallF b_has_thing [] (mCons (mAttr noT CWP.fl "places" (mVar 0)) (mCons (mVar 1) (mNil)))))) (mRet (mCst (.bl false))) (mNext)) (mSeq (mFld CWP.fl "pointer" (mTup (mCons (mBin oIx (mAttr noT CWP.fl "names" (mVar 0)) (mBin oIx (mVar 1) (mCst (.int 0)))) (mCons (mBin oIx (mVar 1) (mCst (.int 1))) (mNil)))) (mVar 0)) (mSeq (mFld CWP.fl "meant" (mVar 1) (mVar 0)) (mRet (mCst (.bl true))))))
def b_Scene_rename : DFn := fnD 2 6 (mSeq (mSet 2 (mBin oIx (mAttr noT CWP.fl "names" (mVar 0)) (mVar 1))) (mSeq (mSet 3 (mBin oIx (mLc (mSrc (mBin oIx (mCst (.tup [.tup [.str ("a" : Str), .str ("c" : Str)], .tup [.str ("b" : Str), .str ("c" : Str)]])) (mVar 1))) [4, 5] (gSet 5) (mTest (mBin (oEq true) (mVar 5) (mVar 2))) (mVar 5)) (mCst (.int 0)))) (mSeq (mIfS (mTest (mBin (oEqF (look2 [("Scene", "looks_after", b_Scene_looks_after)]) CWP.nf CWP.ic) (mBin oIx (mAttr noT CWP.fl "names" (mVar 0)) (mBin oSub (mCst (.int 1)) (mVar 1))) (mVar 3))) (mRet (mCst (.bl false))) (mNext)) (mSeq (mFld CWP.fl "names" (mIf (mTest (mBin (oEqF (look2 [("Scene", "looks_after", b_Scene_looks_after)]) CWP.nf CWP.ic) (mVar 1) (mCst (.int 0)))) (mTup (mCons (mVar 3) (mCons (mBin oIx (mAttr noT CWP.fl "names" (mVar 0)) (mCst (.int 1))) (mNil)))) (mTup (mCons (mBin oIx (mAttr noT CWP.fl "names" (mVar 0)) (mCst (.int 0))) (mCons (mVar 3) (mNil))))) (mVar 0)) (mSeq (mIfS (mAndT (mTest (mCallM (look2 [("Scene", "looks_after", b_Scene_looks_after)]) "looks_after" (mVar 0) (mCons (mCst (.str "rename")) (mNil)))) (mAndT (mTest (mIsN true (mAttr noT CWP.fl "pointer" (mVar 0)))) (mTest (mBin (oEqF (look2 [("Scene", "looks_after", b_Scene_looks_after)]) CWP.nf CWP.ic) (mBin oIx (mAttr noT CWP.fl "pointer" (mVar 0)) (mCst (.int 0))) (mVar 2))))) (mFld CWP.fl "pointer" (mTup (mCons (mVar 3) (mCons (mBin oIx (mAttr noT CWP.fl "pointer" (mVar 0)) (mCst (.int 1))) (mNil)))) (mVar 0)) (mNext)) (mRet (mCst (.bl true))))))))
def b_Scene_renumber : DFn := fnD 2 5 (mSeq (mPar 2 3 (mCons (mTup (mCons (mCst (.int 0)) (mCons (mVar 1) (mNil)))) (mCons (mTup (mCons (mCst (.int 0)) (mCons (mBin oSub (mCst (.int 3)) (mVar 1)) (mNil)))) (mNil)))) (mSeq (mIfS (mOrT (mNotT (mTest (mCallF b_has_thing [] (mCons (mAttr noT CWP.fl "places" (mVar 0)) (mCons (mVar 2) (mNil)))))) (mTest (mBin (oEq true) (mBin oIx (mAttr noT CWP.fl "places" (mVar 0)) (mCallM (look2 [("Scene", "led_to", b_Scene_led_to), ("Scene", "looks_after", b_Scene_looks_after)]) "index" (mCst (.tup [.tup [.int 0, .int 1], .tup [.int 0, .int 2], .tup [.int 1, .int 1]])) (mCons (mVar 3) (mNil)))) (mCst (.int 0))))) (mRet (mCst (.bl false))) (mNext)) (mSeq (mSet 4 (mCallM (look2 [("Scene", "led_to", b_Scene_led_to), ("Scene", "looks_after", b_Scene_looks_after)]) "led_to" (mVar 0) (mNil))) (mSeq (mFld CWP.fl "places" (mCallF b_with_place [] (mCons (mCallF b_with_place [] (mCons (mAttr noT CWP.fl "places" (mVar 0)) (mCons (mVar 2) (mCons (mAttr noT CWP.fl "nights" (mAttr noT CWP.fl "rule_now" (mVar 0))) (mNil))))) (mCons (mVar 3) (mCons (mCst (.str ("thing" : Str))) (mNil))))) (mVar 0)) (mSeq (mIfS (mTest (mBin (oEqF (look2 [("Scene", "led_to", b_Scene_led_to), ("Scene", "looks_after", b_Scene_looks_after)]) CWP.nf CWP.ic) (mAttr noT CWP.fl "meant" (mVar 0)) (mVar 2))) (mFld CWP.fl "meant" (mVar 3) (mVar 0)) (mNext)) (mSeq (mIfS (mAndT (mTest (mCallM (look2 [("Scene", "led_to", b_Scene_led_to), ("Scene", "looks_after", b_Scene_looks_after)]) "looks_after" (mVar 0) (mCons (mCst (.str "renumber")) (mNil)))) (mTest (mBin (oEqF (look2 [("Scene", "led_to", b_Scene_led_to), ("Scene", "looks_after", b_Scene_looks_after)]) CWP.nf CWP.ic) (mVar 4) (mVar 2)))) (mFld CWP.fl "pointer" (mTup (mCons (mBin oIx (mAttr noT CWP.fl "pointer" (mVar 0)) (mCst (.int 0))) (mCons (mBin oIx (mVar 3) (mCst (.int 1))) (mNil)))) (mVar 0)) (mNext)) (mRet (mCst (.bl true)))))))))
def b_Scene_take : DFn := fnD 2 3 (mSeq (mIfS (mNotT (mTest (mCallF b_has_thing [] (mCons (mAttr noT CWP.fl "places" (mVar 0)) (mCons (mVar 1) (mNil)))))) (mRet (mCst (.bl false))) (mNext)) (mSeq (mSet 2 (mCallM (look2 [("Scene", "led_to", b_Scene_led_to), ("Scene", "looks_after", b_Scene_looks_after)]) "led_to" (mVar 0) (mNil))) (mSeq (mFld CWP.fl "places" (mCallF b_with_place [] (mCons (mAttr noT CWP.fl "places" (mVar 0)) (mCons (mVar 1) (mCons (mAttr noT CWP.fl "nights" (mAttr noT CWP.fl "rule_now" (mVar 0))) (mNil))))) (mVar 0)) (mSeq (mIfS (mTest (mBin (oEqF (look2 [("Scene", "led_to", b_Scene_led_to), ("Scene", "looks_after", b_Scene_looks_after)]) CWP.nf CWP.ic) (mAttr noT CWP.fl "meant" (mVar 0)) (mVar 1))) (mFld CWP.fl "meant" (mCst .non) (mVar 0)) (mNext)) (mSeq (mIfS (mAndT (mTest (mCallM (look2 [("Scene", "led_to", b_Scene_led_to), ("Scene", "looks_after", b_Scene_looks_after)]) "looks_after" (mVar 0) (mCons (mCst (.str "take")) (mNil)))) (mTest (mBin (oEqF (look2 [("Scene", "led_to", b_Scene_led_to), ("Scene", "looks_after", b_Scene_looks_after)]) CWP.nf CWP.ic) (mVar 2) (mVar 1)))) (mFld CWP.fl "pointer" (mCst .non) (mVar 0)) (mNext)) (mRet (mCst (.bl true))))))))
def b_Scene_work : DFn := fnD 1 4 (mSeq (mSet 1 (mBin oIx (mAttr noT CWP.fl "in_turn" (mAttr noT CWP.fl "rule_now" (mVar 0))) (mAttr noT CWP.fl "turn" (mVar 0)))) (mSeq (mFld CWP.fl "turn" (mBin oMod (mBin oAdd (mAttr noT CWP.fl "turn" (mVar 0)) (mCst (.int 1))) (mCallB oLen (mCons (mAttr noT CWP.fl "in_turn" (mAttr noT CWP.fl "rule_now" (mVar 0))) (mNil)))) (mVar 0)) (mSeq (mIfS (mTest (mBin (oEqF (look2 [("Scene", "led_to", b_Scene_led_to)]) CWP.nf CWP.ic) (mVar 1) (mCst (.str "free")))) (mFld CWP.fl "places" (mCallB oTuple (mCons (mLc (mSrc (mAttr noT CWP.fl "places" (mVar 0))) [2, 3] (gSet 3) (mYes) (mIf (mTest (mBin (oInA false) (mVar 3) (mTup (mCons (mCst (.str ("thing" : Str))) (mCons (mCst (.int 0)) (mNil)))))) (mVar 3) (mBin oSub (mVar 3) (mCst (.int 1))))) (mNil))) (mVar 0)) (mIfS (mTest (mIsN false (mCallM (look2 [("Scene", "led_to", b_Scene_led_to)]) "led_to" (mVar 0) (mNil)))) (mFld CWP.fl "pointer" (mCst .non) (mVar 0)) (mNext))) (mRet (mCst (.bl true))))))
def b_Scene_do : DFn := fnD 2 3 (mSeq (mSet 2 (mBin oIx (mVar 1) (mCst (.int 0)))) (mSeq (mIfS (mTest (mBin (oEqF (look2 [("Scene", "copy", b_Scene_copy), ("Scene", "drop", b_Scene_drop), ("Scene", "make", b_Scene_make), ("Scene", "point", b_Scene_point), ("Scene", "rename", b_Scene_rename), ("Scene", "renumber", b_Scene_renumber), ("Scene", "take", b_Scene_take), ("Scene", "work", b_Scene_work)]) CWP.nf CWP.ic) (mVar 2) (mCst (.str "copy")))) (mRet (mCallM (look2 [("Scene", "copy", b_Scene_copy), ("Scene", "drop", b_Scene_drop), ("Scene", "make", b_Scene_make), ("Scene", "point", b_Scene_point), ("Scene", "rename", b_Scene_rename), ("Scene", "renumber", b_Scene_renumber), ("Scene", "take", b_Scene_take), ("Scene", "work", b_Scene_work)]) "copy" (mVar 0) (mNil))) (mNext)) (mSeq (mIfS (mTest (mBin (oEqF (look2 [("Scene", "copy", b_Scene_copy), ("Scene", "drop", b_Scene_drop), ("Scene", "make", b_Scene_make), ("Scene", "point", b_Scene_point), ("Scene", "rename", b_Scene_rename), ("Scene", "renumber", b_Scene_renumber), ("Scene", "take", b_Scene_take), ("Scene", "work", b_Scene_work)]) CWP.nf CWP.ic) (mVar 2) (mCst (.str "drop")))) (mRet (mCallM (look2 [("Scene", "copy", b_Scene_copy), ("Scene", "drop", b_Scene_drop), ("Scene", "make", b_Scene_make), ("Scene", "point", b_Scene_point), ("Scene", "rename", b_Scene_rename), ("Scene", "renumber", b_Scene_renumber), ("Scene", "take", b_Scene_take), ("Scene", "work", b_Scene_work)]) "drop" (mVar 0) (mNil))) (mNext)) (mSeq (mIfS (mTest (mBin (oEqF (look2 [("Scene", "copy", b_Scene_copy), ("Scene", "drop", b_Scene_drop), ("Scene", "make", b_Scene_make), ("Scene", "point", b_Scene_point), ("Scene", "rename", b_Scene_rename), ("Scene", "renumber", b_Scene_renumber), ("Scene", "take", b_Scene_take), ("Scene", "work", b_Scene_work)]) CWP.nf CWP.ic) (mVar 2) (mCst (.str "make")))) (mRet (mCallM (look2 [("Scene", "copy", b_Scene_copy), ("Scene", "drop", b_Scene_drop), ("Scene", "make", b_Scene_make), ("Scene", "point", b_Scene_point), ("Scene", "rename", b_Scene_rename), ("Scene", "renumber", b_Scene_renumber), ("Scene", "take", b_Scene_take), ("Scene", "work", b_Scene_work)]) "make" (mVar 0) (mCons (mBin oIx (mVar 1) (mCst (.int 1))) (mNil)))) (mNext)) (mSeq (mIfS (mTest (mBin (oEqF (look2 [("Scene", "copy", b_Scene_copy), ("Scene", "drop", b_Scene_drop), ("Scene", "make", b_Scene_make), ("Scene", "point", b_Scene_point), ("Scene", "rename", b_Scene_rename), ("Scene", "renumber", b_Scene_renumber), ("Scene", "take", b_Scene_take), ("Scene", "work", b_Scene_work)]) CWP.nf CWP.ic) (mVar 2) (mCst (.str "point")))) (mRet (mCallM (look2 [("Scene", "copy", b_Scene_copy), ("Scene", "drop", b_Scene_drop), ("Scene", "make", b_Scene_make), ("Scene", "point", b_Scene_point), ("Scene", "rename", b_Scene_rename), ("Scene", "renumber", b_Scene_renumber), ("Scene", "take", b_Scene_take), ("Scene", "work", b_Scene_work)]) "point" (mVar 0) (mCons (mSl (mVar 1) (mPart (mCst (.int 1))) (mNoP)) (mNil)))) (mNext)) (mSeq (mIfS (mTest (mBin (oEqF (look2 [("Scene", "copy", b_Scene_copy), ("Scene", "drop", b_Scene_drop), ("Scene", "make", b_Scene_make), ("Scene", "point", b_Scene_point), ("Scene", "rename", b_Scene_rename), ("Scene", "renumber", b_Scene_renumber), ("Scene", "take", b_Scene_take), ("Scene", "work", b_Scene_work)]) CWP.nf CWP.ic) (mVar 2) (mCst (.str "rename")))) (mRet (mCallM (look2 [("Scene", "copy", b_Scene_copy), ("Scene", "drop", b_Scene_drop), ("Scene", "make", b_Scene_make), ("Scene", "point", b_Scene_point), ("Scene", "rename", b_Scene_rename), ("Scene", "renumber", b_Scene_renumber), ("Scene", "take", b_Scene_take), ("Scene", "work", b_Scene_work)]) "rename" (mVar 0) (mCons (mBin oIx (mVar 1) (mCst (.int 1))) (mNil)))) (mNext)) (mSeq (mIfS (mTest (mBin (oEqF (look2 [("Scene", "copy", b_Scene_copy), ("Scene", "drop", b_Scene_drop), ("Scene", "make", b_Scene_make), ("Scene", "point", b_Scene_point), ("Scene", "rename", b_Scene_rename), ("Scene", "renumber", b_Scene_renumber), ("Scene", "take", b_Scene_take), ("Scene", "work", b_Scene_work)]) CWP.nf CWP.ic) (mVar 2) (mCst (.str "renumber")))) (mRet (mCallM (look2 [("Scene", "copy", b_Scene_copy), ("Scene", "drop", b_Scene_drop), ("Scene", "make", b_Scene_make), ("Scene", "point", b_Scene_point), ("Scene", "rename", b_Scene_rename), ("Scene", "renumber", b_Scene_renumber), ("Scene", "take", b_Scene_take), ("Scene", "work", b_Scene_work)]) "renumber" (mVar 0) (mCons (mBin oIx (mVar 1) (mCst (.int 1))) (mNil)))) (mNext)) (mRet (mIf (mTest (mBin (oEqF (look2 [("Scene", "copy", b_Scene_copy), ("Scene", "drop", b_Scene_drop), ("Scene", "make", b_Scene_make), ("Scene", "point", b_Scene_point), ("Scene", "rename", b_Scene_rename), ("Scene", "renumber", b_Scene_renumber), ("Scene", "take", b_Scene_take), ("Scene", "work", b_Scene_work)]) CWP.nf CWP.ic) (mVar 2) (mCst (.str "take")))) (mCallM (look2 [("Scene", "copy", b_Scene_copy), ("Scene", "drop", b_Scene_drop), ("Scene", "make", b_Scene_make), ("Scene", "point", b_Scene_point), ("Scene", "rename", b_Scene_rename), ("Scene", "renumber", b_Scene_renumber), ("Scene", "take", b_Scene_take), ("Scene", "work", b_Scene_work)]) "take" (mVar 0) (mCons (mSl (mVar 1) (mPart (mCst (.int 1))) (mNoP)) (mNil))) (mCallM (look2 [("Scene", "copy", b_Scene_copy), ("Scene", "drop", b_Scene_drop), ("Scene", "make", b_Scene_make), ("Scene", "point", b_Scene_point), ("Scene", "rename", b_Scene_rename), ("Scene", "renumber", b_Scene_renumber), ("Scene", "take", b_Scene_take), ("Scene", "work", b_Scene_work)]) "work" (mVar 0) (mNil)))))))))))
def b_Scene_standing : DFn := fnD 1 2 (mSeq (mSet 1 (mIf (mTest (mIsN false (mAttr noT CWP.fl "pointer" (mVar 0)))) (mCst .non) (mAttr noT CWP.fl "meant" (mVar 0)))) (mRet (mTup (mCons (mAttr noT CWP.fl "names" (mVar 0)) (mCons (mAttr noT CWP.fl "places" (mVar 0)) (mCons (mAttr noT CWP.fl "pointer" (mVar 0)) (mCons (mVar 1) (mCons (mAttr noT CWP.fl "turn" (mVar 0)) (mNil)))))))))
def b_led_behind : DFn := fnD 3 6 (mSeq (mSet 3 (mMake "Scene" b_Scene___init__ [] (mCons (mVar 0) (mCons (mVar 1) (mNil))))) (mSeq (mIfS (mNotT (mTest (mCallM (look2 [("Scene", "do", b_Scene_do), ("Scene", "led_to", b_Scene_led_to), ("Scene", "standing", b_Scene_standing)]) "do" (mVar 3) (mCons (mVar 2) (mNil))))) (mRet (mCst .non)) (mNext)) (mSeq (mSet 4 (mLst (mNil))) (mSeq (mIfS (mAndT (mTest (mIsN true (mBin oIx (mVar 1) (mCst (.int 2))))) (mAndT (mTest (mIsN false (mAttr noT CWP.fl "pointer" (mVar 3)))) (mAndT (mTest (mIsN true (mAttr noT CWP.fl "meant" (mVar 3)))) (mTest (mBin (oInA true) (mBin oIx (mVar 2) (mCst (.int 0))) (mCst (.tup [.str ("drop" : Str), .str ("point" : Str)]))))))) (mExp (mCallM (look2 [("Scene", "do", b_Scene_do), ("Scene", "led_to", b_Scene_led_to), ("Scene", "standing", b_Scene_standing)]) "append" (mVar 4) (mCons (mCst (.str "lost")) (mNil)))) (mNext)) (mSeq (mIfS (mTest (mIsN true (mAttr noT CWP.fl "pointer" (mVar 3)))) (mSeq (mSet 5 (mCallM (look2 [("Scene", "do", b_Scene_do), ("Scene", "led_to", b_Scene_led_to), ("Scene", "standing", b_Scene_standing)]) "led_to" (mVar 3) (mNil))) (mIfS (mTest (mIsN false (mVar 5))) (mExp (mCallM (look2 [("Scene", "do", b_Scene_do), ("Scene", "led_to", b_Scene_led_to), ("Scene", "standing", b_Scene_standing)]) "append" (mVar 4) (mCons (mCst (.str "nowhere")) (mNil)))) (mIfS (mTest (mBin (oEq true) (mVar 5) (mAttr noT CWP.fl "meant" (mVar 3)))) (mExp (mCallM (look2 [("Scene", "do", b_Scene_do), ("Scene", "led_to", b_Scene_led_to), ("Scene", "standing", b_Scene_standing)]) "append" (mVar 4) (mCons (mCst (.str "other")) (mNil)))) (mNext)))) (mNext)) (mRet (mMake "Done" b_Done___init__ [] (mCons (mCallM (look2 [("Scene", "do", b_Scene_do), ("Scene", "led_to", b_Scene_led_to), ("Scene", "standing", b_Scene_standing)]) "standing" (mVar 3) (mNil)) (mCons (mVar 4) (mNil))))))))))
def b_standing_behind : DFn := fnD 2 6 (mSeq (mIfS (mNotT (mTest (mIsi (ioF CWP.cls) CWP.ic (.bi "tuple") (mVar 1)))) (mRaise "InvalidHistory" ["index"] (mCons (mNeg (mCst (.int 1))) (mNil))) (mNext)) (mSeq (mSet 2 (mCst (.tup [.tup [.str ("a" : Str), .str ("b" : Str)], .tup [.int 0, .int 0, .int 0], .non, .non, .int 0]))) (mSeq (mFor (mEnum (mCons (mVar 1) (mNil))) (gTupD 2 (gConsD (gSet 3) (gConsD (gSet 4) (gNilD)))) (mSeq (mSet 5 (mIf (mTest (mCallF b_is_deed [] (mCons (mVar 4) (mNil)))) (mCallF b_led_behind [] (mCons (mVar 0) (mCons (mVar 2) (mCons (mVar 4) (mNil))))) (mCst .non))) (mSeq (mIfS (mTest (mIsN false (mVar 5))) (mRaise "InvalidHistory" ["index"] (mCons (mVar 3) (mNil))) (mNext)) (mSet 2 (mAttr noT CWP.fl "behind" (mVar 5)))))) (mRet (mVar 2)))))
def b__law_random : DFn := fnD 2 5 (mSeq (mSet 2 (mVar 1)) (mSeq (mFor (mSrc (mVar 0)) (gSet 3) (mSet 2 (mBin oMod (mCallB oInt (mCons (mBin oAdd (mBin oMul (mVar 2) (mCst (.int 31))) (mCallB oAbs (mCons (mVar 3) (mNil)))) (mNil))) (mCst (.int 2147483647))))) (mRet (mBin oAdd (mLst (mCons (mVar 2) (mCons (mCst (.int 0)) (mNil)))) (mLc (mSrc (mVar 0)) [4, 3] (gSet 3) (mTest (mBin (oCmp fun i j => decide (j ≤ i)) (mVar 3) (mBin oPow (mCst (.int 10)) (mCst (.int 18))))) (mVar 3))))))
def b__law_below : DFn := fnD 2 3 (mSeq (mIfS (mAndT (mTest (mBin (oEqF noT CWP.nf CWP.ic) (mBin oIx (mVar 0) (mCst (.int 1))) (mCst (.int 0)))) (mTest (mBin (oCmp fun i j => decide (j < i)) (mCallB oLen (mCons (mVar 0) (mNil))) (mCst (.int 2))))) (mSetIx (mCallM noT "pop" (mVar 0) (mCons (mCst (.int 2)) (mNil))) (mVar 0) (mCst (.int 1))) (mNext)) (mSeq (mIfS (mTest (mBin (oCmp fun i j => decide (j < i)) (mBin oIx (mVar 0) (mCst (.int 1))) (mCst (.int 0)))) (mSeq (mSet 2 (mBin oMod (mCallB oInt (mCons (mBin oIx (mVar 0) (mCst (.int 1))) (mNil))) (mVar 1))) (mSeq (mSetIx (mBin oFdiv (mBin oIx (mVar 0) (mCst (.int 1))) (mVar 1)) (mVar 0) (mCst (.int 1))) (mRet (mVar 2)))) (mNext)) (mSeq (mSetIx (mBin oMod (mCallB oInt (mCons (mBin oAdd (mBin oMul (mBin oIx (mVar 0) (mCst (.int 0))) (mCst (.int 48271))) (mCst (.int 11))) (mNil))) (mCst (.int 2147483647))) (mVar 0) (mCst (.int 0))) (mRet (mBin oMod (mCallB oInt (mCons (mBin oFdiv (mBin oIx (mVar 0) (mCst (.int 0))) (mCst (.int 64))) (mNil))) (mVar 1))))))
def b__law_pick : DFn := fnD 2 2 (mRet (mBin oIx (mVar 1) (mCallF b__law_below [] (mCons (mVar 0) (mCons (mCallB oLen (mCons (mVar 1) (mNil))) (mNil))))))
def b__law_equal : Nat → DFn
  | 0 => fun _ _ => .bad
  | n + 1 => fnD 2 5 (mSeq (mIfS (mTest (mIsN false (mVar 1))) (mRet (mIsN false (mVar 0))) (mNext)) (mSeq (mIfS (mTest (mIsi (ioF CWP.cls) CWP.ic (.bi "bool") (mVar 1))) (mRet (mAndV (mIsi (ioF CWP.cls) CWP.ic (.bi "bool") (mVar 0)) (mBin (oEqF noT CWP.nf CWP.ic) (mVar 0) (mVar 1)))) (mNext)) (mSeq (mIfS (mTest (mIsi (ioF CWP.cls) CWP.ic (.bi "int") (mVar 1))) (mRet (mAndV (mIsi (ioF CWP.cls) CWP.ic (.bi "int") (mVar 0)) (mAndV (mNotV (mIsi (ioF CWP.cls) CWP.ic (.bi "bool") (mVar 0))) (mBin (oEqF noT CWP.nf CWP.ic) (mVar 0) (mVar 1))))) (mNext)) (mSeq (mIfS (mTest (mIsi (ioF CWP.cls) CWP.ic (.bi "str") (mVar 1))) (mRet (mAndV (mIsi (ioF CWP.cls) CWP.ic (.bi "str") (mVar 0)) (mBin (oEqF noT CWP.nf CWP.ic) (mVar 0) (mVar 1)))) (mNext)) (mSeq (mIfS (mTest (mIsi (ioF CWP.cls) CWP.ic (.bi "dict") (mVar 1))) (mSeq (mIfS (mOrT (mNotT (mTest (mIsi (ioF CWP.cls) CWP.ic (.bi "dict") (mVar 0)))) (mTest (mBin (oEq true) (mCallB oList (mCons (mVar 0) (mNil))) (mCallB oSorted (mCons (mCallB oList (mCons (mVar 1) (mNil))) (mNil)))))) (mRet (mCst (.bl false))) (mNext)) (mRet (mCallB oAll (mCons (mLc (mSrc (mCallB oList (mCons (mVar 0) (mNil)))) [2, 3] (gSet 3) (mYes) (mCallF (b__law_equal n) [] (mCons (mBin oIx (mVar 0) (mVar 3)) (mCons (mBin oIx (mVar 1) (mVar 3)) (mNil))))) (mNil))))) (mNext)) (mSeq (mIfS (mTest (mBin (oEq true) (mIsi (ioF CWP.cls) CWP.ic (.bi "tuple") (mVar 1)) (mIsi (ioF CWP.cls) CWP.ic (.bi "tuple") (mVar 0)))) (mRet (mCst (.bl false))) (mNext)) (mSeq (mIfS (mTest (mBin (oEq true) (mIsi (ioF CWP.cls) CWP.ic (.bi "list") (mVar 1)) (mIsi (ioF CWP.cls) CWP.ic (.bi "list") (mVar 0)))) (mRet (mCst (.bl false))) (mNext)) (mSeq (mIfS (mTest (mBin (oEq true) (mCallB oLen (mCons (mVar 0) (mNil))) (mCallB oLen (mCons (mVar 1) (mNil))))) (mRet (mCst (.bl false))) (mNext)) (mRet (mCallB oAll (mCons (mLc (mRng1 (mCons (mCallB oLen (mCons (mVar 1) (mNil))) (mNil))) [2, 4] (gSet 4) (mYes) (mCallF (b__law_equal n) [] (mCons (mBin oIx (mVar 0) (mVar 4)) (mCons (mBin oIx (mVar 1) (mVar 4)) (mNil))))) (mNil))))))))))))
def b__law_draw : DFn := fnD 3 8 (mSeq (mSet 3 (mLc (mSrc (mLst (mCons (mCst (.str "copy")) (mCons (mCst (.str "rename")) (mCons (mCst (.str "renumber")) (mCons (mCst (.str "take")) (mNil))))))) [5, 6] (gSet 6) (mTest (mBin (oEqF noT CWP.nf CWP.ic) (mCallF b__law_below [] (mCons (mVar 0) (mCons (mCst (.int 2)) (mNil)))) (mCst (.int 0)))) (mVar 6))) (mSeq (mSet 4 (mLc (mRng1 (mCons (mBin oAdd (mCst (.int 1)) (mCallF b__law_below [] (mCons (mVar 0) (mCons (mVar 2) (mNil))))) (mNil))) [5, 7] (gSet 7) (mYes) (mCallF b__law_pick [] (mCons (mVar 0) (mCons (mLst (mCons (mCst (.str "free")) (mCons (mCst (.str "sweep")) (mNil)))) (mNil)))))) (mRet (mTup (mCons (mCallB oTuple (mCons (mVar 3) (mNil))) (mCons (mCallF b__law_below [] (mCons (mVar 0) (mCons (mBin oAdd (mVar 1) (mCst (.int 1))) (mNil)))) (mCons (mCallB oTuple (mCons (mVar 4) (mNil))) (mNil))))))))
def b_Rule___init__ : DFn := fnD 4 4 (mSeq (mExp (mCallF b_look_at_rule [] (mCons (mVar 1) (mCons (mVar 2) (mCons (mVar 3) (mNil)))))) (mSeq (mFld CWP.fl "some_cares" (mVar 1) (mVar 0)) (mSeq (mFld CWP.fl "nights" (mVar 2) (mVar 0)) (mFld CWP.fl "in_turn" (mVar 3) (mVar 0)))))
def b__law_rule : DFn := fnD 1 1 (mRet (mMake "Rule" b_Rule___init__ [] (mCons (mBin oIx (mVar 0) (mCst (.int 0))) (mCons (mBin oIx (mVar 0) (mCst (.int 1))) (mCons (mBin oIx (mVar 0) (mCst (.int 2))) (mNil))))))
def b__law_spots : DFn := fnD 0 0 (mRet (mLst (mCons (mTup (mCons (mCst (.int 0)) (mCons (mCst (.int 1)) (mNil)))) (mCons (mTup (mCons (mCst (.int 0)) (mCons (mCst (.int 2)) (mNil)))) (mCons (mTup (mCons (mCst (.int 1)) (mCons (mCst (.int 1)) (mNil)))) (mNil))))))
def b__law_first : DFn := fnD 0 0 (mRet (bE))
def b__law_twin : DFn := fnD 1 2 (mSeq (mSet 1 (bE)) (mSeq (mSetIx (mCallB oList (mCons (mBin oIx (mVar 0) (mCst (.str "names"))) (mNil))) (mVar 1) (mCst (.str "names"))) (mSeq (mSetIx (bE) (mVar 1) (mCst (.str "things"))) (mSeq (mSetIx (bE) (mVar 1) (mCst (.str "rests"))) (mRet (mVar 1))))))
def b__law_led : DFn := fnD 1 2 (mSeq (mIfS (mOrT (mTest (mIsN false (mBin oIx (mVar 0) (mCst (.str "p"))))) (mTest (mBin (oInA true) (mBin oIx (mBin oIx (mVar 0) (mCst (.str "p"))) (mCst (.int 0))) (mBin oIx (mVar 0) (mCst (.str "names")))))) (mRet (mCst .non)) (mNext)) (mSeq (mSet 1 (mTup (mCons (mCallM noT "index" (mBin oIx (mVar 0) (mCst (.str "names"))) (mCons (mBin oIx (mBin oIx (mVar 0) (mCst (.str "p"))) (mCst (.int 0))) (mNil))) (mCons (mBin oIx (mBin oIx (mVar 0) (mCst (.str "p"))) (mCst (.int 1))) (mNil))))) (mRet (mIf (mTest (mBin (oInA false) (mVar 1) (mBin oIx (mVar 0) (mCst (.str "things"))))) (mVar 1) (mCst .non)))))
def b__law_meant : DFn := fnD 1 4 (mSeq (mSet 1 (mLc (mSrc (mBin oIx (mVar 0) (mCst (.str "things")))) [2, 3] (gSet 3) (mTest (mBin (oEqF noT CWP.nf CWP.ic) (mBin oIx (mBin oIx (mVar 0) (mCst (.str "things"))) (mVar 3)) (mBin oIx (mVar 0) (mCst (.str "m"))))) (mVar 3))) (mRet (mIf (mAndT (mTest (mIsN true (mBin oIx (mVar 0) (mCst (.str "p"))))) (mTest (mBin (oEq true) (mVar 1) (mLst (mNil))))) (mBin oIx (mVar 1) (mCst (.int 0))) (mCst .non))))
def b__law_deeds : DFn := fnD 0 4 (mSeq (mSet 0 (mCallF b__law_spots [] (mNil))) (mSeq (mSet 1 (mBin oAdd (mLst (mCons (mTup (mCons (mCst (.str "copy")) (mNil))) (mCons (mTup (mCons (mCst (.str "drop")) (mNil))) (mCons (mTup (mCons (mCst (.str "make")) (mCons (mCst (.int 0)) (mNil)))) (mCons (mTup (mCons (mCst (.str "make")) (mCons (mCst (.int 1)) (mNil)))) (mNil)))))) (mLc (mSrc (mVar 0)) [2, 3] (gSet 3) (mYes) (mBin oAdd (mTup (mCons (mCst (.str "point")) (mNil))) (mVar 3))))) (mSeq (mSet 1 (mBin oAdd (mVar 1) (mLst (mCons (mTup (mCons (mCst (.str "rename")) (mCons (mCst (.int 0)) (mNil)))) (mCons (mTup (mCons (mCst (.str "rename")) (mCons (mCst (.int 1)) (mNil)))) (mCons (mTup (mCons (mCst (.str "renumber")) (mCons (mCst (.int 1)) (mNil)))) (mCons (mTup (mCons (mCst (.str "renumber")) (mCons (mCst (.int 2)) (mNil)))) (mNil)))))))) (mRet (mBin oAdd (mBin oAdd (mVar 1) (mLc (mSrc (mVar 0)) [2, 3] (gSet 3) (mYes) (mBin oAdd (mTup (mCons (mCst (.str "take")) (mNil))) (mVar 3)))) (mLst (mCons (mTup (mCons (mCst (.str "work")) (mNil))) (mNil))))))))
def b__law_empty : DFn := fnD 2 2 (mRet (mAndV (mBin (oInA true) (mVar 1) (mBin oIx (mVar 0) (mCst (.str "things")))) (mBin (oInA true) (mVar 1) (mBin oIx (mVar 0) (mCst (.str "rests"))))))
def b__law_leave : DFn := fnD 3 3 (mSeq (mExp (mCallM noT "pop" (mBin oIx (mVar 1) (mCst (.str "things"))) (mCons (mVar 2) (mNil)))) (mIfS (mTest (mBin (oCmp fun i j => decide (j < i)) (mBin oIx (mVar 0) (mCst (.int 1))) (mCst (.int 0)))) (mSetIx (mBin oIx (mVar 0) (mCst (.int 1))) (mBin oIx (mVar 1) (mCst (.str "rests"))) (mVar 2)) (mNext)))
def b__law_copied : DFn := fnD 2 10 (mSeq (mSet 2 (mCallF b__law_led [] (mCons (mVar 1) (mNil)))) (mSeq (mSet 3 (bE)) (mSeq (mSet 4 (bE)) (mSeq (mFor (mRng1 (mCons (mCst (.int 2)) (mNil))) (gSet 5) (mSeq (mSet 6 (mCallB oSorted (mCons (mLc (mSrc (mBin oIx (mVar 1) (mCst (.str "things")))) [8, 9] (gSet 9) (mTest (mBin (oEqF noT CWP.nf CWP.ic) (mBin oIx (mVar 9) (mCst (.int 0))) (mVar 5))) (mVar 9)) (mNil)))) (mFor (mRng1 (mCons (mCallB oLen (mCons (mVar 6) (mNil))) (mNil))) (gSet 7) (mSeq (mSetIx (mBin oIx (mBin oIx (mVar 1) (mCst (.str "things"))) (mBin oIx (mVar 6) (mVar 7))) (mVar 3) (mTup (mCons (mVar 5) (mCons (mBin oAdd (mVar 7) (mCst (.int 1))) (mNil))))) (mSetIx (mBin oAdd (mVar 7) (mCst (.int 1))) (mVar 4) (mBin oIx (mVar 6) (mVar 7))))))) (mSeq (mSetIx (mVar 3) (mVar 1) (mCst (.str "things"))) (mSeq (mSetIx (bE) (mVar 1) (mCst (.str "rests"))) (mSeq (mIfS (mAndT (mTest (mBin (oInA false) (mCst (.str "copy")) (mBin oIx (mVar 0) (mCst (.int 0))))) (mTest (mIsN true (mBin oIx (mVar 1) (mCst (.str "p")))))) (mSetIx (mIf (mTest (mIsN false (mVar 2))) (mCst .non) (mTup (mCons (mBin oIx (mBin oIx (mVar 1) (mCst (.str "p"))) (mCst (.int 0))) (mCons (mBin oIx (mVar 4) (mVar 2)) (mNil))))) (mVar 1) (mCst (.str "p"))) (mNext)) (mRet (mVar 1)))))))))
def b__law_renamed : DFn := fnD 3 5 (mSeq (mSet 3 (mBin oIx (mBin oIx (mVar 1) (mCst (.str "names"))) (mVar 2))) (mSeq (mSet 4 (mIf (mTest (mBin (oEq true) (mVar 3) (mCst (.str "c")))) (mCst (.str "c")) (mBin oIx (mLst (mCons (mCst (.str "a")) (mCons (mCst (.str "b")) (mNil)))) (mVar 2)))) (mSeq (mIfS (mTest (mBin (oInA false) (mVar 4) (mBin oIx (mVar 1) (mCst (.str "names"))))) (mRet (mCst .non)) (mNext)) (mSeq (mSetIx (mVar 4) (mBin oIx (mVar 1) (mCst (.str "names"))) (mVar 2)) (mSeq (mIfS (mAndT (mTest (mBin (oInA false) (mCst (.str "rename")) (mBin oIx (mVar 0) (mCst (.int 0))))) (mAndT (mTest (mIsN true (mBin oIx (mVar 1) (mCst (.str "p"))))) (mTest (mBin (oEqF noT CWP.nf CWP.ic) (mBin oIx (mBin oIx (mVar 1) (mCst (.str "p"))) (mCst (.int 0))) (mVar 3))))) (mSetIx (mTup (mCons (mVar 4) (mCons (mBin oIx (mBin oIx (mVar 1) (mCst (.str "p"))) (mCst (.int 1))) (mNil)))) (mVar 1) (mCst (.str "p"))) (mNext)) (mRet (mVar 1)))))))
def b__law_renumbered : DFn := fnD 3 6 (mSeq (mSet 3 (mTup (mCons (mCst (.int 0)) (mCons (mVar 2) (mNil))))) (mSeq (mSet 4 (mTup (mCons (mCst (.int 0)) (mCons (mBin oIx (mLst (mCons (mCst (.int 2)) (mCons (mCst (.int 1)) (mNil)))) (mBin oSub (mVar 2) (mCst (.int 1)))) (mNil))))) (mSeq (mIfS (mOrT (mTest (mBin (oInA true) (mVar 3) (mBin oIx (mVar 1) (mCst (.str "things"))))) (mNotT (mTest (mCallF b__law_empty [] (mCons (mVar 1) (mCons (mVar 4) (mNil))))))) (mRet (mCst .non)) (mNext)) (mSeq (mSet 5 (mCallF b__law_led [] (mCons (mVar 1) (mNil)))) (mSeq (mSetIx (mBin oIx (mBin oIx (mVar 1) (mCst (.str "things"))) (mVar 3)) (mBin oIx (mVar 1) (mCst (.str "things"))) (mVar 4)) (mSeq (mExp (mCallF b__law_leave [] (mCons (mVar 0) (mCons (mVar 1) (mCons (mVar 3) (mNil)))))) (mSeq (mIfS (mAndT (mTest (mBin (oInA false) (mCst (.str "renumber")) (mBin oIx (mVar 0) (mCst (.int 0))))) (mTest (mBin (oEqF noT CWP.nf CWP.ic) (mVar 5) (mVar 3)))) (mSetIx (mTup (mCons (mBin oIx (mBin oIx (mVar 1) (mCst (.str "p"))) (mCst (.int 0))) (mCons (mBin oIx (mVar 4) (mCst (.int 1))) (mNil)))) (mVar 1) (mCst (.str "p"))) (mNext)) (mRet (mVar 1)))))))))
def b__law_taken : DFn := fnD 3 4 (mSeq (mIfS (mTest (mBin (oInA true) (mVar 2) (mBin oIx (mVar 1) (mCst (.str "things"))))) (mRet (mCst .non)) (mNext)) (mSeq (mSet 3 (mCallF b__law_led [] (mCons (mVar 1) (mNil)))) (mSeq (mExp (mCallF b__law_leave [] (mCons (mVar 0) (mCons (mVar 1) (mCons (mVar 2) (mNil)))))) (mSeq (mIfS (mAndT (mTest (mBin (oInA false) (mCst (.str "take")) (mBin oIx (mVar 0) (mCst (.int 0))))) (mTest (mBin (oEqF noT CWP.nf CWP.ic) (mVar 3) (mVar 2)))) (mSetIx (mCst .non) (mVar 1) (mCst (.str "p"))) (mNext)) (mRet (mVar 1))))))
def b__law_worked : DFn := fnD 2 6 (mSeq (mSet 2 (mBin oIx (mBin oIx (mVar 0) (mCst (.int 2))) (mBin oIx (mVar 1) (mCst (.str "turn"))))) (mSeq (mSetIx (mBin oMod (mBin oAdd (mBin oIx (mVar 1) (mCst (.str "turn"))) (mCst (.int 1))) (mCallB oLen (mCons (mBin oIx (mVar 0) (mCst (.int 2))) (mNil)))) (mVar 1) (mCst (.str "turn"))) (mSeq (mIfS (mTest (mBin (oEqF noT CWP.nf CWP.ic) (mVar 2) (mCst (.str "free")))) (mSeq (mSet 3 (mBin oIx (mVar 1) (mCst (.str "rests")))) (mSetIx (bE) (mVar 1) (mCst (.str "rests")))) (mIfS (mTest (mIsN false (mCallF b__law_led [] (mCons (mVar 1) (mNil))))) (mSetIx (mCst .non) (mVar 1) (mCst (.str "p"))) (mNext))) (mRet (mVar 1)))))
def b__law_made : DFn := fnD 2 5 (mSeq (mSet 2 (mLc (mSrc (mCallF b__law_spots [] (mNil))) [3, 4] (gSet 4) (mAndT (mTest (mBin (oEqF noT CWP.nf CWP.ic) (mBin oIx (mVar 4) (mCst (.int 0))) (mVar 1))) (mTest (mCallF b__law_empty [] (mCons (mVar 0) (mCons (mVar 4) (mNil)))))) (mVar 4))) (mSeq (mIfS (mTest (mBin (oEqF noT CWP.nf CWP.ic) (mVar 2) (mLst (mNil)))) (mRet (mCst .non)) (mNext)) (mSeq (mSetIx (mBin oIx (mVar 0) (mCst (.str "fresh"))) (mBin oIx (mVar 0) (mCst (.str "things"))) (mBin oIx (mVar 2) (mCst (.int 0)))) (mSeq (mSetIx (mBin oAdd (mBin oIx (mVar 0) (mCst (.str "fresh"))) (mCst (.int 1))) (mVar 0) (mCst (.str "fresh"))) (mRet (mVar 0))))))
def b__law_pointed : DFn := fnD 2 2 (mSeq (mIfS (mTest (mBin (oInA true) (mVar 1) (mBin oIx (mVar 0) (mCst (.str "things"))))) (mRet (mCst .non)) (mNext)) (mSeq (mSetIx (mTup (mCons (mBin oIx (mBin oIx (mVar 0) (mCst (.str "names"))) (mBin oIx (mVar 1) (mCst (.int 0)))) (mCons (mBin oIx (mVar 1) (mCst (.int 1))) (mNil)))) (mVar 0) (mCst (.str "p"))) (mSeq (mSetIx (mBin oIx (mBin oIx (mVar 0) (mCst (.str "things"))) (mVar 1)) (mVar 0) (mCst (.str "m"))) (mRet (mVar 0)))))
def b__law_do : DFn := fnD 3 4 (mSeq (mSet 3 (mCallF b__law_twin [] (mCons (mVar 1) (mNil)))) (mSeq (mIfS (mTest (mBin (oEqF noT CWP.nf CWP.ic) (mBin oIx (mVar 2) (mCst (.int 0))) (mCst (.str "copy")))) (mRet (mCallF b__law_copied [] (mCons (mVar 0) (mCons (mVar 3) (mNil))))) (mNext)) (mSeq (mIfS (mTest (mBin (oEqF noT CWP.nf CWP.ic) (mBin oIx (mVar 2) (mCst (.int 0))) (mCst (.str "drop")))) (mSeq (mSetIx (mCst .non) (mVar 3) (mCst (.str "p"))) (mRet (mIf (mTest (mIsN true (mBin oIx (mVar 1) (mCst (.str "p"))))) (mVar 3) (mCst .non)))) (mNext)) (mSeq (mIfS (mTest (mBin (oEqF noT CWP.nf CWP.ic) (mBin oIx (mVar 2) (mCst (.int 0))) (mCst (.str "make")))) (mRet (mCallF b__law_made [] (mCons (mVar 3) (mCons (mBin oIx (mVar 2) (mCst (.int 1))) (mNil))))) (mNext)) (mSeq (mIfS (mTest (mBin (oEqF noT CWP.nf CWP.ic) (mBin oIx (mVar 2) (mCst (.int 0))) (mCst (.str "point")))) (mRet (mCallF b__law_pointed [] (mCons (mVar 3) (mCons (mSl (mVar 2) (mPart (mCst (.int 1))) (mNoP)) (mNil))))) (mNext)) (mSeq (mIfS (mTest (mBin (oEqF noT CWP.nf CWP.ic) (mBin oIx (mVar 2) (mCst (.int 0))) (mCst (.str "rename")))) (mRet (mCallF b__law_renamed [] (mCons (mVar 0) (mCons (mVar 3) (mCons (mBin oIx (mVar 2) (mCst (.int 1))) (mNil)))))) (mNext)) (mSeq (mIfS (mTest (mBin (oEqF noT CWP.nf CWP.ic) (mBin oIx (mVar 2) (mCst (.int 0))) (mCst (.str "renumber")))) (mRet (mCallF b__law_renumbered [] (mCons (mVar 0) (mCons (mVar 3) (mCons (mBin oIx (mVar 2) (mCst (.int 1))) (mNil)))))) (mNext)) (mRet (mIf (mTest (mBin (oEqF noT CWP.nf CWP.ic) (mBin oIx (mVar 2) (mCst (.int 0))) (mCst (.str "take")))) (mCallF b__law_taken [] (mCons (mVar 0) (mCons (mVar 3) (mCons (mSl (mVar 2) (mPart (mCst (.int 1))) (mNoP)) (mNil))))) (mCallF b__law_worked [] (mCons (mVar 0) (mCons (mVar 3) (mNil)))))))))))))
def b__law_standing : DFn := fnD 1 3 (mSeq (mSet 1 (mLst (mNil))) (mSeq (mFor (mSrc (mCallF b__law_spots [] (mNil))) (gSet 2) (mExp (mCallM noT "append" (mVar 1) (mCons (mIf (mTest (mBin (oInA false) (mVar 2) (mBin oIx (mVar 0) (mCst (.str "things"))))) (mCst (.str "thing")) (mCallM noT "get" (mBin oIx (mVar 0) (mCst (.str "rests"))) (mCons (mVar 2) (mCons (mCst (.int 0)) (mNil))))) (mNil))))) (mRet (mTup (mCons (mCallB oTuple (mCons (mBin oIx (mVar 0) (mCst (.str "names"))) (mNil))) (mCons (mCallB oTuple (mCons (mVar 1) (mNil))) (mCons (mBin oIx (mVar 0) (mCst (.str "p"))) (mCons (mCallF b__law_meant [] (mCons (mVar 0) (mNil))) (mCons (mBin oIx (mVar 0) (mCst (.str "turn"))) (mNil))))))))))
def b__law_history : DFn := fnD 3 8 (mSeq (mSet 3 (mCallF b__law_first [] (mNil))) (mSeq (mSet 4 (mTup (mNil))) (mSeq (mFor (mRng1 (mCons (mVar 2) (mNil))) (gSet 5) (mSeq (mSet 6 (mCallF b__law_pick [] (mCons (mVar 0) (mCons (mCallF b__law_deeds [] (mNil)) (mNil))))) (mSeq (mSet 7 (mCallF b__law_do [] (mCons (mVar 1) (mCons (mVar 3) (mCons (mVar 6) (mNil)))))) (mIfS (mTest (mIsN true (mVar 7))) (mSeq (mSet 3 (mVar 7)) (mSet 4 (mBin oAdd (mVar 4) (mTup (mCons (mVar 6) (mNil)))))) (mNext))))) (mRet (mLst (mCons (mVar 4) (mCons (mVar 3) (mNil))))))))
def b_Rule___eq__ : DFn := fnD 2 2 (mSeq (mIfS (mOrT (mNotT (mTest (mIsi (ioF CWP.cls) CWP.ic (.own "Rule") (mVar 1)))) (mOrT (mTest (mBin (oEq true) (mAttr noT CWP.fl "some_cares" (mVar 0)) (mAttr noT CWP.fl "some_cares" (mVar 1)))) (mTest (mBin (oEq true) (mAttr noT CWP.fl "nights" (mVar 0)) (mAttr noT CWP.fl "nights" (mVar 1)))))) (mRet (mCst (.bl false))) (mNext)) (mRet (mBin (oEqF noT CWP.nf CWP.ic) (mAttr noT CWP.fl "in_turn" (mVar 0)) (mAttr noT CWP.fl "in_turn" (mVar 1)))))
def b_Rule_changed : DFn := fnD 3 3 (mExp (mCallF b__wall [] (mCons (mCst (.int 0)) (mNil))))
def b_Rule_cares : DFn := fnD 1 1 (mRet (mAttr noT CWP.fl "some_cares" (mVar 0)))
def b_Rule_rest : DFn := fnD 1 1 (mRet (mAttr noT CWP.fl "nights" (mVar 0)))
def b_Rule_works : DFn := fnD 1 1 (mRet (mAttr noT CWP.fl "in_turn" (mVar 0)))
def b_Reached_go_on_from : DFn := fnD 2 5 (mFor (mSrc (mCallF b_every_deed [] (mNil))) (gSet 2) (mSeq (mSet 3 (mCallF b_led_behind [] (mCons (mAttr noT CWP.fl "rule_asked" (mVar 0)) (mCons (mVar 1) (mCons (mVar 2) (mNil)))))) (mIfS (mTest (mIsN true (mVar 3))) (mSeq (mFor (mSrc (mAttr noT CWP.fl "some" (mVar 3))) (gSet 4) (mExp (mCallM noT "setdefault" (mAttr noT CWP.fl "first_faults" (mVar 0)) (mCons (mVar 4) (mCons (mTup (mStar (mBin oIx (mAttr noT CWP.fl "histories" (mVar 0)) (mVar 1)) (mCons (mVar 2) (mNil)))) (mNil)))))) (mIfS (mTest (mBin (oInA true) (mAttr noT CWP.fl "behind" (mVar 3)) (mAttr noT CWP.fl "histories" (mVar 0)))) (mSeq (mSetIx (mTup (mStar (mBin oIx (mAttr noT CWP.fl "histories" (mVar 0)) (mVar 1)) (mCons (mVar 2) (mNil)))) (mAttr noT CWP.fl "histories" (mVar 0)) (mAttr noT CWP.fl "behind" (mVar 3))) (mExp (mCallM noT "append" (mAttr noT CWP.fl "order" (mVar 0)) (mCons (mAttr noT CWP.fl "behind" (mVar 3)) (mNil))))) (mNext))) (mNext))))
def b_Reached_is_there : DFn := fnD 1 3 (mRet (mCallB oAny (mCons (mLc (mSrc (mAttr noT CWP.fl "goals" (mVar 0))) [1, 2] (gSet 2) (mYes) (mBin (oInA false) (mVar 2) (mAttr noT CWP.fl "first_faults" (mVar 0)))) (mNil))))
def b_Reached___init__ : DFn := fnD 3 4 (mSeq (mFld CWP.fl "rule_asked" (mVar 1) (mVar 0)) (mSeq (mFld CWP.fl "goals" (mVar 2) (mVar 0)) (mSeq (mFld CWP.fl "histories" (bE) (mVar 0)) (mSeq (mFld CWP.fl "first_faults" (bE) (mVar 0)) (mSeq (mFld CWP.fl "order" (mLst (mCons (mCst (.tup [.tup [.str ("a" : Str), .str ("b" : Str)], .tup [.int 0, .int 0, .int 0], .non, .non, .int 0])) (mNil))) (mVar 0)) (mSeq (mSet 3 (mCst (.int 0))) (mWhile (mAndT (mTest (mBin (oCmp fun i j => decide (i < j)) (mVar 3) (mCallB oLen (mCons (mAttr noT CWP.fl "order" (mVar 0)) (mNil))))) (mNotT (mTest (mCallM (look2 [("Reached", "is_there", b_Reached_is_there), ("Reached", "go_on_from", b_Reached_go_on_from)]) "is_there" (mVar 0) (mNil))))) (mSeq (mExp (mCallM (look2 [("Reached", "is_there", b_Reached_is_there), ("Reached", "go_on_from", b_Reached_go_on_from)]) "go_on_from" (mVar 0) (mCons (mBin oIx (mAttr noT CWP.fl "order" (mVar 0)) (mVar 3)) (mNil)))) (mAug 3 (mCst (.int 1)))) 100000)))))))
def b_faults : DFn := fnD 1 1 (mRet (mCallB oSorted (mCons (mCallB oList (mCons (mAttr noT CWP.fl "first_faults" (mMake "Reached" b_Reached___init__ [.tup []] (mCons (mVar 0) (mNil)))) (mNil))) (mNil))))
def b_least_fault : DFn := fnD 2 2 (mSeq (mIfS (mOrT (mNotT (mTest (mIsi (ioF CWP.cls) CWP.ic (.bi "str") (mVar 1)))) (mTest (mBin (oInA true) (mVar 1) (mCst (.tup [.str ("lost" : Str), .str ("nowhere" : Str), .str ("other" : Str)]))))) (mRet (mCst .non)) (mNext)) (mRet (mCallM noT "get" (mAttr noT CWP.fl "first_faults" (mMake "Reached" b_Reached___init__ [.tup []] (mCons (mVar 0) (mNil)))) (mCons (mVar 1) (mCons (mCst .non) (mNil))))))
def b__law_faults : DFn := fnD 3 7 (mSeq (mSet 3 (mLst (mNil))) (mSeq (mIfS (mAndT (mTest (mIsN true (mBin oIx (mVar 0) (mCst (.str "p"))))) (mAndT (mTest (mIsN false (mBin oIx (mVar 1) (mCst (.str "p"))))) (mTest (mBin (oInA true) (mBin oIx (mVar 2) (mCst (.int 0))) (mTup (mCons (mCst (.str "drop")) (mCons (mCst (.str "point")) (mNil)))))))) (mIfS (mTest (mBin (oInA false) (mBin oIx (mVar 0) (mCst (.str "m"))) (mLc (mSrc (mBin oIx (mVar 1) (mCst (.str "things")))) [5, 6] (gSet 6) (mYes) (mBin oIx (mBin oIx (mVar 1) (mCst (.str "things"))) (mVar 6))))) (mExp (mCallM noT "append" (mVar 3) (mCons (mCst (.str "lost")) (mNil)))) (mNext)) (mNext)) (mSeq (mIfS (mTest (mIsN true (mBin oIx (mVar 1) (mCst (.str "p"))))) (mSeq (mSet 4 (mCallF b__law_led [] (mCons (mVar 1) (mNil)))) (mIfS (mTest (mIsN false (mVar 4))) (mExp (mCallM noT "append" (mVar 3) (mCons (mCst (.str "nowhere")) (mNil)))) (mIfS (mTest (mBin (oEq true) (mVar 4) (mCallF b__law_meant [] (mCons (mVar 1) (mNil))))) (mExp (mCallM noT "append" (mVar 3) (mCons (mCst (.str "other")) (mNil)))) (mNext)))) (mNext)) (mRet (mVar 3)))))
def b__law_walk : DFn := fnD 1 13 (mSeq (mSet 1 (mCallF b__law_first [] (mNil))) (mSeq (mSet 2 (mLst (mCons (mTup (mCons (mTup (mNil)) (mCons (mVar 1) (mNil)))) (mNil)))) (mSeq (mSet 3 (bE)) (mSeq (mSet 4 (bE)) (mSeq (mSet 5 (mVar 2)) (mSeq (mWhile (mTest (mBin (oEq true) (mVar 5) (mLst (mNil)))) (mSeq (mSet 6 (mLst (mNil))) (mSeq (mFor (mSrc (mVar 5)) (gTupD 2 (gConsD (gSet 7) (gConsD (gSet 8) (gNilD)))) (mFor (mSrc (mCallF b__law_deeds [] (mNil))) (gSet 9) (mSeq (mSet 10 (mCallF b__law_do [] (mCons (mVar 0) (mCons (mVar 8) (mCons (mVar 9) (mNil)))))) (mIfS (mTest (mIsN true (mVar 10))) (mSeq (mFor (mSrc (mCallF b__law_faults [] (mCons (mVar 8) (mCons (mVar 10) (mCons (mVar 9) (mNil)))))) (gSet 11) (mExp (mCallM noT "setdefault" (mVar 4) (mCons (mVar 11) (mCons (mBin oAdd (mVar 7) (mTup (mCons (mVar 9) (mNil)))) (mNil)))))) (mSeq (mSet 12 (mCallF b__law_standing [] (mCons (mVar 10) (mNil)))) (mIfS (mTest (mBin (oInA true) (mVar 12) (mVar 3))) (mSeq (mSetIx (mCst (.bl true)) (mVar 3) (mVar 12)) (mExp (mCallM noT "append" (mVar 6) (mCons (mTup (mCons (mBin oAdd (mVar 7) (mTup (mCons (mVar 9) (mNil)))) (mCons (mVar 10) (mNil)))) (mNil))))) (mNext)))) (mNext))))) (mSeq (mSet 2 (mBin oAdd (mVar 2) (mVar 6))) (mSet 5 (mVar 6))))) 100000) (mRet (mLst (mCons (mVar 2) (mCons (mVar 4) (mNil)))))))))))
def b_shown : DFn := fnD 1 7 (mSeq (mAsg (mVar 0) (gTupD 5 (gConsD (gSet 1) (gConsD (gSet 2) (gConsD (gSet 3) (gConsD (gSet 4) (gConsD (gSet 5) (gNilD)))))))) (mSeq (mSet 6 (mCallF b_place_led_to [] (mCons (mVar 1) (mCons (mVar 2) (mCons (mVar 3) (mNil)))))) (mRet (mTup (mCons (mVar 3) (mCons (mVar 6) (mCons (mAndV (mIsN true (mVar 6)) (mBin (oEqF noT CWP.nf CWP.ic) (mVar 6) (mVar 4))) (mNil))))))))
def b_first_pair : DFn := fnD 3 12 (mSeq (mSet 3 (mLst (mCons (mTup (mCons (mTup (mCons (mCst (.tup [.tup [.str ("a" : Str), .str ("b" : Str)], .tup [.int 0, .int 0, .int 0], .non, .non, .int 0])) (mCons (mCst (.tup [.tup [.str ("a" : Str), .str ("b" : Str)], .tup [.int 0, .int 0, .int 0], .non, .non, .int 0])) (mNil)))) (mCons (mTup (mNil)) (mNil)))) (mNil)))) (mSeq (mSet 4 (bE)) (mSeq (mSet 5 (mCallF b_every_deed [] (mNil))) (mSeq (mWhile (mTest (mBin (oEq true) (mVar 3) (mLst (mNil)))) (mSeq (mSet 6 (mLst (mNil))) (mSeq (mFor (mSrc (mVar 3)) (gTupD 2 (gConsD (gSet 7) (gConsD (gSet 8) (gNilD)))) (mIfS (mTest (mBin (oInA true) (mVar 7) (mVar 4))) (mSeq (mSetIx (mCst (.bl true)) (mVar 4) (mVar 7)) (mSeq (mIfS (mTest (bE)) (mRet (mVar 8)) (mNext)) (mFor (mSrc (mVar 5)) (gSet 9) (mSeq (mSet 10 (mCallF b_led_behind [] (mCons (mVar 0) (mCons (mBin oIx (mVar 7) (mCst (.int 0))) (mCons (mVar 9) (mNil)))))) (mSeq (mSet 11 (mCallF b_led_behind [] (mCons (mVar 1) (mCons (mBin oIx (mVar 7) (mCst (.int 1))) (mCons (mVar 9) (mNil)))))) (mIfS (mAndT (mTest (mIsN true (mVar 10))) (mTest (mIsN true (mVar 11)))) (mExp (mCallM noT "append" (mVar 6) (mCons (mTup (mCons (mTup (mCons (mAttr noT CWP.fl "behind" (mVar 10)) (mCons (mAttr noT CWP.fl "behind" (mVar 11)) (mNil)))) (mCons (mTup (mStar (mVar 8) (mCons (mVar 9) (mNil)))) (mNil)))) (mNil)))) (mNext))))))) (mNext))) (mSet 3 (mVar 6)))) 100000) (mRet (mCst .non))))))
def b_parting : DFn := fnD 2 2 (mRet (mCallF b_first_pair [] (mCons (mVar 0) (mCons (mVar 1) (mCons (bE) (mNil))))))
def b_behind_both : DFn := fnD 4 6 (mSeq (mSet 4 (mCallF b_led_behind [] (mCons (mVar 0) (mCons (mVar 1) (mCons (mVar 2) (mNil)))))) (mSeq (mSet 5 (mIf (mTest (mIsN false (mVar 4))) (mCst .non) (mCallF b_led_behind [] (mCons (mVar 0) (mCons (mAttr noT CWP.fl "behind" (mVar 4)) (mCons (mVar 3) (mNil))))))) (mRet (mIf (mTest (mIsN false (mVar 5))) (mCst .non) (mAttr noT CWP.fl "behind" (mVar 5))))))
def b_apart : DFn := fnD 3 9 (mSeq (mFor (mEnum (mCons (mLst (mCons (mVar 1) (mCons (mVar 2) (mNil)))) (mNil))) (gTupD 2 (gConsD (gSet 3) (gConsD (gSet 4) (gNilD)))) (mIfS (mNotT (mTest (mCallF b_is_deed [] (mCons (mVar 4) (mNil))))) (mRaise "InvalidDeed" ["index"] (mCons (mVar 3) (mNil))) (mNext))) (mSeq (mSet 5 (mAttr noT CWP.fl "histories" (mMake "Reached" b_Reached___init__ [.tup []] (mCons (mVar 0) (mNil))))) (mSeq (mFor (mSrc (mVar 5)) (gSet 6) (mSeq (mSet 7 (mCallF b_behind_both [] (mCons (mVar 0) (mCons (mVar 6) (mCons (mVar 1) (mCons (mVar 2) (mNil))))))) (mSeq (mSet 8 (mCallF b_behind_both [] (mCons (mVar 0) (mCons (mVar 6) (mCons (mVar 2) (mCons (mVar 1) (mNil))))))) (mIfS (mAndT (mTest (mIsN true (mVar 7))) (mAndT (mTest (mIsN true (mVar 8))) (mTest (mBin (oEq true) (mVar 7) (mVar 8))))) (mRet (mBin oIx (mVar 5) (mVar 6))) (mNext))))) (mRet (mCst .non)))))
def b_look_at_words : DFn := fnD 1 3 (mFor (mEnum (mCons (mVar 0) (mNil))) (gTupD 2 (gConsD (gSet 1) (gConsD (gSet 2) (gNilD)))) (mIfS (mOrT (mNotT (mTest (mIsi (ioF CWP.cls) CWP.ic (.bi "str") (mVar 2)))) (mTest (mBin (oInA true) (mVar 2) (mCst (.tup [.str ("lost" : Str), .str ("nowhere" : Str), .str ("other" : Str)]))))) (mRaise "InvalidWord" ["index"] (mCons (mVar 1) (mNil))) (mNext)))
def b_is_right : DFn := fnD 2 2 (mRet (mNotV (mCallM (look2 [("Reached", "is_there", b_Reached_is_there)]) "is_there" (mMake "Reached" b_Reached___init__ [] (mCons (mVar 0) (mCons (mCallB oTuple (mCons (mVar 1) (mNil))) (mNil)))) (mNil))))
def b_all_cares : DFn := fnD 0 4 (mSeq (mSet 0 (mLst (mCons (mTup (mNil)) (mNil)))) (mSeq (mFor (mSrc (mCst (.tup [.str ("copy" : Str), .str ("rename" : Str), .str ("renumber" : Str), .str ("take" : Str)]))) (gSet 1) (mSet 0 (mLst (mStar (mVar 0) (mStar (mLc (mSrc (mVar 0)) [2, 3] (gSet 3) (mYes) (mTup (mStar (mVar 3) (mCons (mVar 1) (mNil))))) (mNil)))))) (mRet (bE))))
def b_Rule_changed_k05 : DFn := fnD 3 3 (mSeq (mIfS (mOrT (mNotT (mTest (mIsi (ioF CWP.cls) CWP.ic (.bi "str") (mVar 1)))) (mTest (mBin (oInA true) (mVar 1) (mCst (.tup [.str ("cares" : Str), .str ("rest" : Str), .str ("works" : Str)]))))) (mRaise "UnknownPart" ["part"] (mCons (mVar 1) (mNil))) (mNext)) (mSeq (mIfS (mTest (mBin (oEqF noT CWP.nf CWP.ic) (mVar 1) (mCst (.str "cares")))) (mRet (mMake "Rule" b_Rule___init__ [] (mCons (mVar 2) (mCons (mAttr noT CWP.fl "nights" (mVar 0)) (mCons (mAttr noT CWP.fl "in_turn" (mVar 0)) (mNil)))))) (mNext)) (mSeq (mIfS (mTest (mBin (oEqF noT CWP.nf CWP.ic) (mVar 1) (mCst (.str "rest")))) (mRet (mMake "Rule" b_Rule___init__ [] (mCons (mAttr noT CWP.fl "some_cares" (mVar 0)) (mCons (mVar 2) (mCons (mAttr noT CWP.fl "in_turn" (mVar 0)) (mNil)))))) (mNext)) (mRet (mMake "Rule" b_Rule___init__ [] (mCons (mAttr noT CWP.fl "some_cares" (mVar 0)) (mCons (mAttr noT CWP.fl "nights" (mVar 0)) (mCons (mVar 2) (mNil)))))))))
def b_enough : DFn := fnD 2 4 (mSeq (mExp (mCallF b_look_at_words [] (mCons (mVar 1) (mNil)))) (mSeq (mSet 2 (mLst (mNil))) (mSeq (mFor (mSrc (mCallF b_all_cares [] (mNil))) (gSet 3) (mIfS (mOrT (mTest (mBin (oEqF (look2 [("Rule", "changed", b_Rule_changed_k05)]) CWP.nf CWP.ic) (mVar 2) (mLst (mNil)))) (mTest (mBin (oEqF (look2 [("Rule", "changed", b_Rule_changed_k05)]) CWP.nf CWP.ic) (mCallB oLen (mCons (mVar 3) (mNil))) (mCallB oLen (mCons (mBin oIx (mVar 2) (mCst (.int 0))) (mNil)))))) (mIfS (mTest (mCallF b_is_right [] (mCons (mCallM (look2 [("Rule", "changed", b_Rule_changed_k05)]) "changed" (mVar 0) (mCons (mCst (.str "cares")) (mCons (mVar 3) (mNil)))) (mCons (mVar 1) (mNil))))) (mExp (mCallM (look2 [("Rule", "changed", b_Rule_changed_k05)]) "append" (mVar 2) (mCons (mVar 3) (mNil)))) (mNext)) (mNext))) (mRet (mVar 2)))))
def b__law_has_none : DFn := fnD 2 11 (mSeq (mSet 2 (mLst (mCons (mCallF b__law_first [] (mNil)) (mNil)))) (mSeq (mSet 3 (bE)) (mSeq (mWhile (mTest (mBin (oEq true) (mVar 2) (mLst (mNil)))) (mSeq (mSet 4 (mLst (mNil))) (mSeq (mFor (mSrc (mVar 2)) (gSet 5) (mFor (mSrc (mCallF b__law_deeds [] (mNil))) (gSet 6) (mSeq (mSet 7 (mCallF b__law_do [] (mCons (mVar 0) (mCons (mVar 5) (mCons (mVar 6) (mNil)))))) (mIfS (mTest (mIsN true (mVar 7))) (mSeq (mIfS (mTest (mBin (oEq true) (mLc (mSrc (mCallF b__law_faults [] (mCons (mVar 5) (mCons (mVar 7) (mCons (mVar 6) (mNil)))))) [9, 10] (gSet 10) (mTest (mBin (oInA false) (mVar 10) (mVar 1))) (mVar 10)) (mLst (mNil)))) (mRet (mCst (.bl false))) (mNext)) (mSeq (mSet 8 (mCallF b__law_standing [] (mCons (mVar 7) (mNil)))) (mIfS (mTest (mBin (oInA true) (mVar 8) (mVar 3))) (mSeq (mSetIx (mCst (.bl true)) (mVar 3) (mVar 8)) (mExp (mCallM noT "append" (mVar 4) (mCons (mVar 7) (mNil))))) (mNext)))) (mNext))))) (mSet 2 (mVar 4)))) 100000) (mRet (mCst (.bl true))))))
def b_least_rest : DFn := fnD 2 3 (mSeq (mExp (mCallF b_look_at_words [] (mCons (mVar 1) (mNil)))) (mSeq (mFor (mRng1 (mCons (mBin oAdd (mCst (.int 2)) (mCst (.int 1))) (mNil))) (gSet 2) (mIfS (mTest (mCallF b_is_right [] (mCons (mCallM (look2 [("Rule", "changed", b_Rule_changed_k05)]) "changed" (mVar 0) (mCons (mCst (.str "rest")) (mCons (mVar 2) (mNil)))) (mCons (mVar 1) (mNil))))) (mRet (mVar 2)) (mNext))) (mRet (mCst .non))))
def b_orders_of : DFn := fnD 1 9 (mSeq (mSet 1 (bE)) (mSeq (mFor (mRng1 (mCons (mCallB oLen (mCons (mVar 0) (mNil))) (mNil))) (gSet 2) (mSeq (mSet 3 (bE)) (mSeq (mFor (mSrc (mCallM noT "items" (mVar 1) (mNil))) (gTupD 2 (gConsD (gSet 4) (gConsD (gSet 5) (gNilD)))) (mFor (mSrc (mVar 5)) (gSet 6) (mSeq (mSet 7 (mCallB oList (mCons (mVar 5) (mNil)))) (mSeq (mExp (mCallM noT "remove" (mVar 7) (mCons (mVar 6) (mNil)))) (mSeq (mSet 8 (mTup (mStar (mVar 4) (mCons (mVar 6) (mNil))))) (mSetIx (mVar 7) (mVar 3) (mVar 8))))))) (mSet 1 (mVar 3))))) (mRet (mCallB oSorted (mCons (mCallB oList (mCons (mVar 1) (mNil))) (mNil))))))
def b_orders : DFn := fnD 2 4 (mSeq (mExp (mCallF b_look_at_words [] (mCons (mVar 1) (mNil)))) (mRet (mLc (mSrc (mCallF b_orders_of [] (mCons (mAttr noT CWP.fl "in_turn" (mVar 0)) (mNil)))) [2, 3] (gSet 3) (mTest (mCallF b_is_right [] (mCons (mCallM (look2 [("Rule", "changed", b_Rule_changed_k05)]) "changed" (mVar 0) (mCons (mCst (.str "works")) (mCons (mVar 3) (mNil)))) (mCons (mVar 1) (mNil))))) (mVar 3))))
def b_is_name : DFn := fnD 1 3 (mSeq (mIfS (mOrT (mNotT (mTest (mIsi (ioF CWP.cls) CWP.ic (.bi "str") (mVar 0)))) (mNotT (mTest (mChain (oCmp fun i j => decide (i ≤ j)) (oCmp fun i j => decide (i ≤ j)) (mCst (.int 1)) (mCallB oLen (mCons (mVar 0) (mNil))) (mCst (.int 6)))))) (mRet (mCst (.bl false))) (mNext)) (mRet (mCallB oAll (mCons (mLc (mSrc (mVar 0)) [1, 2] (gSet 2) (mYes) (mBin (oInA false) (mVar 2) (mCst (.str ("abcdefghijklmnopqrstuvwxyz" : Str))))) (mNil)))))
def b_are_kinds : DFn := fnD 1 3 (mSeq (mIfS (mOrT (mNotT (mTest (mIsi (ioF CWP.cls) CWP.ic (.bi "tuple") (mVar 0)))) (mOrT (mNotT (mTest (mChain (oCmp fun i j => decide (i ≤ j)) (oCmp fun i j => decide (i ≤ j)) (mCst (.int 1)) (mCallB oLen (mCons (mVar 0) (mNil))) (mCst (.int 6))))) (mNotT (mTest (mCallB oAll (mCons (mLc (mSrc (mVar 0)) [1, 2] (gSet 2) (mYes) (mCallF b_is_name [] (mCons (mVar 2) (mNil)))) (mNil))))))) (mRet (mCst (.bl false))) (mNext)) (mRet (mBin (oEqF noT CWP.nf CWP.ic) (mCallB oLen (mCons (bE) (mNil))) (mCallB oLen (mCons (mVar 0) (mNil))))))
def b__law_words : DFn := fnD 0 0 (mRet (mLst (mCons (mCst (.str "inn")) (mCons (mCst (.str "map")) (mCons (mCst (.str "plan")) (mCons (mCst (.str "a")) (mCons (mCst (.str "b")) (mCons (mCst (.str "lamp")) (mCons (mCst (.str "z")) (mNil))))))))))
def b__law_open : DFn := fnD 2 5 (mSeq (mSet 2 (mLc (mSrc (mVar 1)) [3, 4] (gSet 4) (mYes) (bE))) (mRet (bE)))
def b__law_again : DFn := fnD 1 5 (mSeq (mSet 1 (mLc (mSrc (mBin oIx (mVar 0) (mCst (.str "kinds")))) [3, 4] (gSet 4) (mYes) (bE))) (mSeq (mSet 2 (bE)) (mSeq (mSetIx (mVar 1) (mVar 2) (mCst (.str "kinds"))) (mSeq (mSetIx (bE) (mVar 2) (mCst (.str "rows"))) (mSeq (mSetIx (mCallB oList (mCons (mBin oIx (mVar 0) (mCst (.str "lost"))) (mNil))) (mVar 2) (mCst (.str "lost"))) (mRet (mVar 2)))))))
def b__law_names : DFn := fnD 1 3 (mRet (mLc (mSrc (mBin oIx (mVar 0) (mCst (.str "kinds")))) [1, 2] (gSet 2) (mYes) (mBin oIx (mVar 2) (mCst (.str "name")))))
def b__law_kind : DFn := fnD 2 4 (mRet (mBin oIx (mLc (mSrc (mBin oIx (mVar 0) (mCst (.str "kinds")))) [2, 3] (gSet 3) (mTest (mBin (oEqF noT CWP.nf CWP.ic) (mBin oIx (mVar 3) (mCst (.str "name"))) (mVar 1))) (mVar 3)) (mCst (.int 0))))
def b__law_thing_led : DFn := fnD 2 5 (mSeq (mAsg (mBin oIx (mBin oIx (mVar 0) (mCst (.str "rows"))) (mVar 1)) (gTupD 3 (gConsD (gSet 2) (gConsD (gSet 3) (gConsD (gSet 4) (gNilD)))))) (mSeq (mIfS (mTest (mBin (oInA true) (mVar 2) (mCallF b__law_names [] (mCons (mVar 0) (mNil))))) (mRet (mCst .non)) (mNext)) (mRet (mCallM noT "get" (mBin oIx (mCallF b__law_kind [] (mCons (mVar 0) (mCons (mVar 2) (mNil)))) (mCst (.str "things"))) (mCons (mVar 3) (mCons (mCst .non) (mNil)))))))
def b__law_spot : DFn := fnD 2 4 (mSeq (mFor (mSrc (mBin oIx (mVar 0) (mCst (.str "kinds")))) (gSet 2) (mFor (mSrc (mBin oIx (mVar 2) (mCst (.str "things")))) (gSet 3) (mIfS (mTest (mBin (oEqF noT CWP.nf CWP.ic) (mBin oIx (mBin oIx (mVar 2) (mCst (.str "things"))) (mVar 3)) (mVar 1))) (mRet (mTup (mCons (mBin oIx (mVar 2) (mCst (.str "name"))) (mCons (mVar 3) (mNil))))) (mNext)))) (mRet (mCst .non)))
def b__law_drop_rows : DFn := fnD 2 3 (mFor (mSrc (mCallB oSorted (mCons (mVar 1) (mNil)))) (gSet 2) (mSeq (mIfS (mTest (mIsN true (mCallF b__law_spot [] (mCons (mVar 0) (mCons (mBin oIx (mBin oIx (mBin oIx (mVar 0) (mCst (.str "rows"))) (mVar 2)) (mCst (.int 2))) (mNil)))))) (mExp (mCallM noT "append" (mBin oIx (mVar 0) (mCst (.str "lost"))) (mCons (mVar 2) (mNil)))) (mNext)) (mExp (mCallM noT "pop" (mBin oIx (mVar 0) (mCst (.str "rows"))) (mCons (mVar 2) (mNil))))))
def b__law_let_go : DFn := fnD 3 3 (mSeq (mExp (mCallM noT "pop" (mBin oIx (mVar 1) (mCst (.str "things"))) (mCons (mVar 2) (mNil)))) (mIfS (mTest (mBin (oCmp fun i j => decide (j < i)) (mBin oIx (mVar 0) (mCst (.int 1))) (mCst (.int 0)))) (mSetIx (mBin oIx (mVar 0) (mCst (.int 1))) (mBin oIx (mVar 1) (mCst (.str "rests"))) (mVar 2)) (mNext)))
def b__law_copy_all : DFn := fnD 2 12 (mSeq (mSet 3 (bE)) (mSeq (mSet 4 (bE)) (mSeq (mSet 5 (bE)) (mSeq (mFor (mSrc (mBin oIx (mVar 1) (mCst (.str "kinds")))) (gSet 6) (mSeq (mSet 7 (bE)) (mSeq (mFor (mSrc (mCallB oSorted (mCons (mCallB oList (mCons (mBin oIx (mVar 6) (mCst (.str "things"))) (mNil))) (mNil)))) (gSet 8) (mSeq (mSetIx (mBin oIx (mBin oIx (mVar 6) (mCst (.str "things"))) (mVar 8)) (mVar 7) (mBin oAdd (mCallB oLen (mCons (mVar 7) (mNil))) (mCst (.int 1)))) (mSeq (mSetIx (mCallB oLen (mCons (mVar 7) (mNil))) (mVar 4) (mTup (mCons (mBin oIx (mVar 6) (mCst (.str "name"))) (mCons (mVar 8) (mNil))))) (mSetIx (mCallB oLen (mCons (mVar 7) (mNil))) (mVar 5) (mBin oIx (mBin oIx (mVar 6) (mCst (.str "things"))) (mVar 8)))))) (mSeq (mSetIx (mVar 7) (mVar 6) (mCst (.str "things"))) (mSetIx (bE) (mVar 6) (mCst (.str "rests"))))))) (mSeq (mIfS (mTest (mBin (oInA false) (mCst (.str "copy")) (mBin oIx (mVar 0) (mCst (.int 0))))) (mSeq (mFor (mSrc (mLc (mSrc (mBin oIx (mVar 1) (mCst (.str "rows")))) [11, 2] (gSet 2) (mTest (mIsN true (mBin oIx (mVar 3) (mVar 2)))) (mVar 2))) (gSet 2) (mSeq (mAsg (mBin oIx (mBin oIx (mVar 1) (mCst (.str "rows"))) (mVar 2)) (gTupD 3 (gConsD (gSet 9) (gConsD (gSet 8) (gConsD (gSet 10) (gNilD)))))) (mSetIx (mTup (mCons (mVar 9) (mCons (mBin oIx (mVar 5) (mBin oIx (mVar 3) (mVar 2))) (mCons (mVar 10) (mNil))))) (mBin oIx (mVar 1) (mCst (.str "rows"))) (mVar 2)))) (mExp (mCallF b__law_drop_rows [] (mCons (mVar 1) (mCons (mLc (mSrc (mBin oIx (mVar 1) (mCst (.str "rows")))) [11, 2] (gSet 2) (mTest (mIsN false (mBin oIx (mVar 3) (mVar 2)))) (mVar 2)) (mNil)))))) (mNext)) (mRet (mLst (mCons (mVar 1) (mCons (mVar 4) (mNil))))))))))
def b__law_work_on : DFn := fnD 2 8 (mSeq (mSet 2 (mBin oIx (mBin oIx (mVar 0) (mCst (.int 2))) (mBin oIx (mVar 1) (mCst (.str "turn"))))) (mSeq (mSetIx (mBin oMod (mBin oAdd (mBin oIx (mVar 1) (mCst (.str "turn"))) (mCst (.int 1))) (mCallB oLen (mCons (mBin oIx (mVar 0) (mCst (.int 2))) (mNil)))) (mVar 1) (mCst (.str "turn"))) (mSeq (mIfS (mTest (mBin (oEqF noT CWP.nf CWP.ic) (mVar 2) (mCst (.str "free")))) (mFor (mSrc (mBin oIx (mVar 1) (mCst (.str "kinds")))) (gSet 3) (mSeq (mSet 4 (mBin oIx (mVar 3) (mCst (.str "rests")))) (mSetIx (bE) (mVar 3) (mCst (.str "rests"))))) (mExp (mCallF b__law_drop_rows [] (mCons (mVar 1) (mCons (mLc (mSrc (mBin oIx (mVar 1) (mCst (.str "rows")))) [5, 7] (gSet 7) (mTest (mIsN false (mCallF b__law_thing_led [] (mCons (mVar 1) (mCons (mVar 7) (mNil)))))) (mVar 7)) (mNil)))))) (mRet (mLst (mCons (mVar 1) (mCons (mVar 2) (mNil))))))))
def b__law_make_one : DFn := fnD 2 6 (mSeq (mSet 2 (mCallF b__law_kind [] (mCons (mVar 0) (mCons (mVar 1) (mNil))))) (mSeq (mSet 3 (mBin oIx (mLc (mRng2 (mCons (mCst (.int 1)) (mCons (mCst (.int 3000)) (mNil)))) [4, 5] (gSet 5) (mAndT (mTest (mBin (oInA true) (mVar 5) (mBin oIx (mVar 2) (mCst (.str "things"))))) (mTest (mBin (oInA true) (mVar 5) (mBin oIx (mVar 2) (mCst (.str "rests")))))) (mVar 5)) (mCst (.int 0)))) (mSeq (mSetIx (mBin oIx (mVar 0) (mCst (.str "fresh"))) (mBin oIx (mVar 2) (mCst (.str "things"))) (mVar 3)) (mSeq (mSetIx (mBin oAdd (mBin oIx (mVar 0) (mCst (.str "fresh"))) (mCst (.int 1))) (mVar 0) (mCst (.str "fresh"))) (mRet (mLst (mCons (mVar 0) (mCons (mVar 3) (mNil)))))))))
def b__law_renumber_one : DFn := fnD 5 10 (mSeq (mSet 5 (mCallF b__law_kind [] (mCons (mVar 1) (mCons (mVar 2) (mNil))))) (mSeq (mSet 6 (mBin oIx (mBin oIx (mVar 5) (mCst (.str "things"))) (mVar 3))) (mSeq (mSet 8 (mLc (mSrc (mBin oIx (mVar 1) (mCst (.str "rows")))) [9, 7] (gSet 7) (mTest (mBin (oEqF noT CWP.nf CWP.ic) (mCallF b__law_thing_led [] (mCons (mVar 1) (mCons (mVar 7) (mNil)))) (mVar 6))) (mVar 7))) (mSeq (mExp (mCallF b__law_let_go [] (mCons (mVar 0) (mCons (mVar 5) (mCons (mVar 3) (mNil)))))) (mSeq (mSetIx (mVar 6) (mBin oIx (mVar 5) (mCst (.str "things"))) (mVar 4)) (mSeq (mIfS (mTest (mBin (oInA false) (mCst (.str "renumber")) (mBin oIx (mVar 0) (mCst (.int 0))))) (mFor (mSrc (mVar 8)) (gSet 7) (mSetIx (mTup (mCons (mVar 2) (mCons (mVar 4) (mCons (mBin oIx (mBin oIx (mBin oIx (mVar 1) (mCst (.str "rows"))) (mVar 7)) (mCst (.int 2))) (mNil))))) (mBin oIx (mVar 1) (mCst (.str "rows"))) (mVar 7))) (mNext)) (mRet (mLst (mCons (mVar 1) (mCons (mCst .non) (mNil)))))))))))
def b__law_rename_one : DFn := fnD 4 7 (mSeq (mSet 4 (mCallF b__law_kind [] (mCons (mVar 1) (mCons (mVar 2) (mNil))))) (mSeq (mSetIx (mVar 3) (mVar 4) (mCst (.str "name"))) (mSeq (mIfS (mTest (mBin (oInA false) (mCst (.str "rename")) (mBin oIx (mVar 0) (mCst (.int 0))))) (mFor (mSrc (mLc (mSrc (mBin oIx (mVar 1) (mCst (.str "rows")))) [6, 5] (gSet 5) (mTest (mBin (oEqF noT CWP.nf CWP.ic) (mBin oIx (mBin oIx (mBin oIx (mVar 1) (mCst (.str "rows"))) (mVar 5)) (mCst (.int 0))) (mVar 2))) (mVar 5))) (gSet 5) (mSetIx (mBin oAdd (mTup (mCons (mVar 3) (mNil))) (mSl (mBin oIx (mBin oIx (mVar 1) (mCst (.str "rows"))) (mVar 5)) (mPart (mCst (.int 1))) (mNoP))) (mBin oIx (mVar 1) (mCst (.str "rows"))) (mVar 5))) (mNext)) (mRet (mLst (mCons (mVar 1) (mCons (mCst .non) (mNil))))))))
def b__law_take_one : DFn := fnD 4 9 (mSeq (mSet 4 (mCallF b__law_kind [] (mCons (mVar 1) (mCons (mVar 2) (mNil))))) (mSeq (mSet 5 (mBin oIx (mBin oIx (mVar 4) (mCst (.str "things"))) (mVar 3))) (mSeq (mSet 6 (mLc (mSrc (mBin oIx (mVar 1) (mCst (.str "rows")))) [7, 8] (gSet 8) (mTest (mBin (oEqF noT CWP.nf CWP.ic) (mCallF b__law_thing_led [] (mCons (mVar 1) (mCons (mVar 8) (mNil)))) (mVar 5))) (mVar 8))) (mSeq (mExp (mCallF b__law_let_go [] (mCons (mVar 0) (mCons (mVar 4) (mCons (mVar 3) (mNil)))))) (mSeq (mIfS (mTest (mBin (oInA false) (mCst (.str "take")) (mBin oIx (mVar 0) (mCst (.int 0))))) (mExp (mCallF b__law_drop_rows [] (mCons (mVar 1) (mCons (mVar 6) (mNil))))) (mNext)) (mRet (mLst (mCons (mVar 1) (mCons (mCst .non) (mNil))))))))))
def b__law_act : DFn := fnD 3 4 (mSeq (mSet 3 (mCallF b__law_again [] (mCons (mVar 1) (mNil)))) (mSeq (mIfS (mTest (mBin (oEqF noT CWP.nf CWP.ic) (mBin oIx (mVar 2) (mCst (.int 0))) (mCst (.str "make")))) (mRet (mCallF b__law_make_one [] (mCons (mVar 3) (mCons (mBin oIx (mVar 2) (mCst (.int 1))) (mNil))))) (mNext)) (mSeq (mIfS (mTest (mBin (oEqF noT CWP.nf CWP.ic) (mBin oIx (mVar 2) (mCst (.int 0))) (mCst (.str "take")))) (mRet (mCallF b__law_take_one [] (mCons (mVar 0) (mCons (mVar 3) (mCons (mBin oIx (mVar 2) (mCst (.int 1))) (mCons (mBin oIx (mVar 2) (mCst (.int 2))) (mNil))))))) (mNext)) (mSeq (mIfS (mTest (mBin (oEqF noT CWP.nf CWP.ic) (mBin oIx (mVar 2) (mCst (.int 0))) (mCst (.str "renumber")))) (mRet (mCallF b__law_renumber_one [] (mCons (mVar 0) (mCons (mVar 3) (mCons (mBin oIx (mVar 2) (mCst (.int 1))) (mCons (mBin oIx (mVar 2) (mCst (.int 2))) (mCons (mBin oIx (mVar 2) (mCst (.int 3))) (mNil)))))))) (mNext)) (mSeq (mIfS (mTest (mBin (oEqF noT CWP.nf CWP.ic) (mBin oIx (mVar 2) (mCst (.int 0))) (mCst (.str "rename")))) (mRet (mCallF b__law_rename_one [] (mCons (mVar 0) (mCons (mVar 3) (mCons (mBin oIx (mVar 2) (mCst (.int 1))) (mCons (mBin oIx (mVar 2) (mCst (.int 2))) (mNil))))))) (mNext)) (mSeq (mIfS (mTest (mBin (oEqF noT CWP.nf CWP.ic) (mBin oIx (mVar 2) (mCst (.int 0))) (mCst (.str "copy")))) (mRet (mCallF b__law_copy_all [] (mCons (mVar 0) (mCons (mVar 3) (mNil))))) (mNext)) (mSeq (mIfS (mTest (mBin (oEqF noT CWP.nf CWP.ic) (mBin oIx (mVar 2) (mCst (.int 0))) (mCst (.str "work")))) (mRet (mCallF b__law_work_on [] (mCons (mVar 0) (mCons (mVar 3) (mNil))))) (mNext)) (mSeq (mIfS (mTest (mBin (oEqF noT CWP.nf CWP.ic) (mBin oIx (mVar 2) (mCst (.int 0))) (mCst (.str "point")))) (mSetIx (mBin oAdd (mSl (mVar 2) (mPart (mCst (.int 2))) (mNoP)) (mTup (mCons (mBin oIx (mBin oIx (mCallF b__law_kind [] (mCons (mVar 3) (mCons (mBin oIx (mVar 2) (mCst (.int 2))) (mNil)))) (mCst (.str "things"))) (mBin oIx (mVar 2) (mCst (.int 3)))) (mNil)))) (mBin oIx (mVar 3) (mCst (.str "rows"))) (mBin oIx (mVar 2) (mCst (.int 1)))) (mExp (mCallM noT "pop" (mBin oIx (mVar 3) (mCst (.str "rows"))) (mCons (mBin oIx (mVar 2) (mCst (.int 1))) (mNil))))) (mRet (mLst (mCons (mVar 3) (mCons (mCst .non) (mNil)))))))))))))
def b__law_things : DFn := fnD 1 5 (mSeq (mSet 1 (mLst (mNil))) (mSeq (mFor (mSrc (mBin oIx (mVar 0) (mCst (.str "kinds")))) (gSet 2) (mSet 1 (mBin oAdd (mVar 1) (mLc (mSrc (mBin oIx (mVar 2) (mCst (.str "things")))) [3, 4] (gSet 4) (mYes) (mTup (mCons (mBin oIx (mVar 2) (mCst (.str "name"))) (mCons (mVar 4) (mNil)))))))) (mRet (mVar 1))))
def b__law_next_deed : DFn := fnD 2 12 (mSeq (mSet 2 (mCallF b__law_things [] (mCons (mVar 1) (mNil)))) (mSeq (mSet 3 (mCallF b__law_below [] (mCons (mVar 0) (mCons (mCst (.int 12)) (mNil))))) (mSeq (mIfS (mOrT (mTest (mBin (oCmp fun i j => decide (i < j)) (mVar 3) (mCst (.int 3)))) (mTest (mBin (oEqF noT CWP.nf CWP.ic) (mVar 2) (mLst (mNil))))) (mRet (mTup (mCons (mCst (.str "make")) (mCons (mCallF b__law_pick [] (mCons (mVar 0) (mCons (mCallF b__law_names [] (mCons (mVar 1) (mNil))) (mNil)))) (mNil))))) (mNext)) (mSeq (mAsg (mCallF b__law_pick [] (mCons (mVar 0) (mCons (mVar 2) (mNil)))) (gTupD 2 (gConsD (gSet 4) (gConsD (gSet 5) (gNilD))))) (mSeq (mIfS (mTest (mBin (oEqF noT CWP.nf CWP.ic) (mVar 3) (mCst (.int 3)))) (mRet (mTup (mCons (mCst (.str "take")) (mCons (mVar 4) (mCons (mVar 5) (mNil)))))) (mNext)) (mSeq (mIfS (mTest (mBin (oEqF noT CWP.nf CWP.ic) (mVar 3) (mCst (.int 4)))) (mSeq (mSet 6 (mCallF b__law_kind [] (mCons (mVar 1) (mCons (mVar 4) (mNil))))) (mSeq (mSet 7 (mLc (mRng2 (mCons (mCst (.int 1)) (mCons (mCst (.int 9)) (mNil)))) [9, 10] (gSet 10) (mAndT (mTest (mBin (oInA true) (mVar 10) (mBin oIx (mVar 6) (mCst (.str "things"))))) (mTest (mBin (oInA true) (mVar 10) (mBin oIx (mVar 6) (mCst (.str "rests")))))) (mVar 10))) (mRet (mIf (mTest (mBin (oEq true) (mVar 7) (mLst (mNil)))) (mTup (mCons (mCst (.str "renumber")) (mCons (mVar 4) (mCons (mVar 5) (mCons (mCallF b__law_pick [] (mCons (mVar 0) (mCons (mVar 7) (mNil)))) (mNil)))))) (mTup (mCons (mCst (.str "work")) (mNil))))))) (mNext)) (mSeq (mIfS (mTest (mBin (oEqF noT CWP.nf CWP.ic) (mVar 3) (mCst (.int 5)))) (mSeq (mSet 8 (mLc (mSrc (mCallF b__law_words [] (mNil))) [9, 11] (gSet 11) (mTest (mBin (oInA true) (mVar 11) (mCallF b__law_names [] (mCons (mVar 1) (mNil))))) (mVar 11))) (mRet (mTup (mCons (mCst (.str "rename")) (mCons (mVar 4) (mCons (mCallF b__law_pick [] (mCons (mVar 0) (mCons (mVar 8) (mNil)))) (mNil))))))) (mNext)) (mSeq (mIfS (mTest (mBin (oEqF noT CWP.nf CWP.ic) (mVar 3) (mCst (.int 6)))) (mRet (mTup (mCons (mCst (.str "copy")) (mNil)))) (mNext)) (mSeq (mIfS (mTest (mBin (oCmp fun i j => decide (i < j)) (mVar 3) (mCst (.int 9)))) (mRet (mTup (mCons (mCst (.str "work")) (mNil)))) (mNext)) (mSeq (mIfS (mAndT (mTest (mBin (oEqF noT CWP.nf CWP.ic) (mVar 3) (mCst (.int 9)))) (mTest (mBin (oEq true) (mBin oIx (mVar 1) (mCst (.str "rows"))) (bE)))) (mRet (mTup (mCons (mCst (.str "drop")) (mCons (mCallF b__law_pick [] (mCons (mVar 0) (mCons (mCallB oSorted (mCons (mCallB oList (mCons (mBin oIx (mVar 1) (mCst (.str "rows"))) (mNil))) (mNil))) (mNil)))) (mNil))))) (mNext)) (mRet (mTup (mCons (mCst (.str "point")) (mCons (mCallF b__law_pick [] (mCons (mVar 0) (mCons (mLst (mCons (mCst (.str "x")) (mCons (mCst (.str "y")) (mCons (mCst (.str "row")) (mCons (mCst (.str "u")) (mNil)))))) (mNil)))) (mCons (mVar 4) (mCons (mVar 5) (mNil)))))))))))))))))
def b_Page_place_meant : DFn := fnD 2 5 (mSeq (mFor (mEnum (mCons (mAttr noT CWP.fl "numbers" (mVar 0)) (mNil))) (gTupD 2 (gConsD (gSet 2) (gConsD (gSet 3) (gNilD)))) (mFor (mSrc (mVar 3)) (gSet 4) (mIfS (mTest (mBin (oEqF noT CWP.nf CWP.ic) (mBin oIx (mVar 3) (mVar 4)) (mBin oIx (mAttr noT CWP.fl "meant" (mVar 0)) (mVar 1)))) (mRet (mTup (mCons (mVar 2) (mCons (mVar 4) (mNil))))) (mNext)))) (mRet (mCst .non)))
def b_Page_forget : DFn := fnD 3 4 (mFor (mSrc (mCallB oSorted (mCons (mVar 1) (mNil)))) (gSet 3) (mSeq (mIfS (mAndT (mTest (mVar 2)) (mTest (mIsN true (mCallM (look2 [("Page", "place_meant", b_Page_place_meant)]) "place_meant" (mVar 0) (mCons (mVar 3) (mNil)))))) (mExp (mCallM (look2 [("Page", "place_meant", b_Page_place_meant)]) "append" (mAttr noT CWP.fl "lost_rows" (mVar 0)) (mCons (mVar 3) (mNil)))) (mNext)) (mSeq (mDelIx (mAttr noT CWP.fl "pointers" (mVar 0)) (mVar 3)) (mDelIx (mAttr noT CWP.fl "meant" (mVar 0)) (mVar 3)))))
def b_Page_kind_of : DFn := fnD 2 2 (mRet (mIf (mTest (mBin (oInA false) (mVar 1) (mAttr noT CWP.fl "names" (mVar 0)))) (mCallM noT "index" (mAttr noT CWP.fl "names" (mVar 0)) (mCons (mVar 1) (mNil))) (mCst .non)))
def b_Page_led_to : DFn := fnD 2 5 (mSeq (mAsg (mBin oIx (mAttr noT CWP.fl "pointers" (mVar 0)) (mVar 1)) (gTupD 2 (gConsD (gSet 2) (gConsD (gSet 3) (gNilD))))) (mSeq (mSet 4 (mCallM (look2 [("Page", "kind_of", b_Page_kind_of)]) "kind_of" (mVar 0) (mCons (mVar 2) (mNil)))) (mRet (mIf (mAndT (mTest (mIsN true (mVar 4))) (mTest (mBin (oInA false) (mVar 3) (mBin oIx (mAttr noT CWP.fl "numbers" (mVar 0)) (mVar 4))))) (mTup (mCons (mVar 4) (mCons (mVar 3) (mNil)))) (mCst .non)))))
def b_Page___init__ : DFn := fnD 6 6 (mSeq (mFld CWP.fl "names" (mVar 1) (mVar 0)) (mSeq (mFld CWP.fl "numbers" (mVar 2) (mVar 0)) (mSeq (mFld CWP.fl "resting_now" (mVar 3) (mVar 0)) (mSeq (mFld CWP.fl "pointers" (mVar 4) (mVar 0)) (mSeq (mFld CWP.fl "meant" (mVar 5) (mVar 0)) (mSeq (mFld CWP.fl "fresh" (mCst (.int 0)) (mVar 0)) (mSeq (mFld CWP.fl "turn" (mCst (.int 0)) (mVar 0)) (mSeq (mFld CWP.fl "lost_rows" (mLst (mNil)) (mVar 0)) (mFld CWP.fl "deed" (mCst .non) (mVar 0))))))))))
def b_Page_twin : DFn := fnD 2 5 (mSeq (mSet 2 (mMake "Page" b_Page___init__ [] (mCons (mCallB oList (mCons (mAttr noT CWP.fl "names" (mVar 0)) (mNil))) (mCons (mLc (mSrc (mAttr noT CWP.fl "numbers" (mVar 0))) [3, 4] (gSet 4) (mYes) (bE)) (mCons (mLc (mSrc (mAttr noT CWP.fl "resting_now" (mVar 0))) [3, 4] (gSet 4) (mYes) (bE)) (mCons (bE) (mCons (bE) (mNil)))))))) (mSeq (mFld CWP.fl "fresh" (mAttr noT CWP.fl "fresh" (mVar 0)) (mVar 2)) (mSeq (mFld CWP.fl "turn" (mAttr noT CWP.fl "turn" (mVar 0)) (mVar 2)) (mSeq (mFld CWP.fl "lost_rows" (mCallB oList (mCons (mAttr noT CWP.fl "lost_rows" (mVar 0)) (mNil))) (mVar 2)) (mSeq (mFld CWP.fl "deed" (mVar 1) (mVar 2)) (mRet (mVar 2)))))))
def b_Store_looks_after : DFn := fnD 2 2 (mRet (mBin (oInA false) (mVar 1) (mAttr noT CWP.fl "some_cares" (mAttr noT CWP.fl "rule_now" (mVar 0)))))
def b_Store_page : DFn := fnD 1 1 (mRet (mBin oIx (mAttr noT CWP.fl "pages" (mVar 0)) (mNeg (mCst (.int 1)))))
def b_Store_copy : DFn := fnD 1 15 (mSeq (mSet 1 (mCallM (look2 [("Page", "twin", b_Page_twin), ("Store", "page", b_Store_page), ("Page", "led_to", b_Page_led_to), ("Store", "looks_after", b_Store_looks_after), ("Page", "forget", b_Page_forget)]) "twin" (mCallM (look2 [("Page", "twin", b_Page_twin), ("Store", "page", b_Store_page), ("Page", "led_to", b_Page_led_to), ("Store", "looks_after", b_Store_looks_after), ("Page", "forget", b_Page_forget)]) "page" (mVar 0) (mNil)) (mCons (mTup (mCons (mCst (.str "copy")) (mNil))) (mNil)))) (mSeq (mSet 2 (bE)) (mSeq (mFor (mEnum (mCons (mAttr noT CWP.fl "numbers" (mVar 1)) (mNil))) (gTupD 2 (gConsD (gSet 3) (gConsD (gSet 4) (gNilD)))) (mExp (mCallM (look2 [("Page", "twin", b_Page_twin), ("Store", "page", b_Store_page), ("Page", "led_to", b_Page_led_to), ("Store", "looks_after", b_Store_looks_after), ("Page", "forget", b_Page_forget)]) "update" (mVar 2) (mCons (bE) (mNil))))) (mSeq (mSet 5 (mLc (mSrc (mAttr noT CWP.fl "pointers" (mVar 1))) [8, 11] (gSet 11) (mYes) (mTup (mCons (mVar 11) (mCons (mCallM (look2 [("Page", "twin", b_Page_twin), ("Store", "page", b_Store_page), ("Page", "led_to", b_Page_led_to), ("Store", "looks_after", b_Store_looks_after), ("Page", "forget", b_Page_forget)]) "led_to" (mVar 1) (mCons (mVar 11) (mNil))) (mNil)))))) (mSeq (mBadS) (mSeq (mSet 6 (mLst (mNil))) (mSeq (mFor (mEnum (mCons (mAttr noT CWP.fl "numbers" (mVar 1)) (mNil))) (gTupD 2 (gConsD (gSet 3) (gConsD (gSet 4) (gNilD)))) (mExp (mCallM (look2 [("Page", "twin", b_Page_twin), ("Store", "page", b_Store_page), ("Page", "led_to", b_Page_led_to), ("Store", "looks_after", b_Store_looks_after), ("Page", "forget", b_Page_forget)]) "append" (mVar 6) (mCons (bE) (mNil))))) (mSeq (mFld CWP.fl "numbers" (mVar 6) (mVar 1)) (mSeq (mIfS (mTest (mCallM (look2 [("Page", "twin", b_Page_twin), ("Store", "page", b_Store_page), ("Page", "led_to", b_Page_led_to), ("Store", "looks_after", b_Store_looks_after), ("Page", "forget", b_Page_forget)]) "looks_after" (mVar 0) (mCons (mCst (.str "copy")) (mNil)))) (mSeq (mExp (mCallM (look2 [("Page", "twin", b_Page_twin), ("Store", "page", b_Store_page), ("Page", "led_to", b_Page_led_to), ("Store", "looks_after", b_Store_looks_after), ("Page", "forget", b_Page_forget)]) "update" (mAttr noT CWP.fl "pointers" (mVar 1)) (mCons (bE) (mNil)))) (mExp (mCallM (look2 [("Page", "twin", b_Page_twin), ("Store", "page", b_Store_page), ("Page", "led_to", b_Page_led_to), ("Store", "looks_after", b_Store_looks_after), ("Page", "forget", b_Page_forget)]) "forget" (mVar 1) (mCons (mLc (mSrc (mVar 5)) [8, 11, 13] (gTupD 2 (gConsD (gSet 11) (gConsD (gSet 13) (gNilD)))) (mTest (mIsN false (mVar 13))) (mVar 11)) (mCons (mCst (.bl true)) (mNil)))))) (mNext)) (mSeq (mExp (mCallM (look2 [("Page", "twin", b_Page_twin), ("Store", "page", b_Store_page), ("Page", "led_to", b_Page_led_to), ("Store", "looks_after", b_Store_looks_after), ("Page", "forget", b_Page_forget)]) "append" (mAttr noT CWP.fl "pages" (mVar 0)) (mCons (mVar 1) (mNil)))) (mSeq (mBadS) (mRet (bE)))))))))))))
def b_Store_look_at_row : DFn := fnD 2 2 (mIfS (mOrT (mNotT (mTest (mIsi (ioF CWP.cls) CWP.ic (.bi "str") (mVar 1)))) (mTest (mBin (oInA true) (mVar 1) (mAttr noT CWP.fl "pointers" (mCallM (look2 [("Store", "page", b_Store_page)]) "page" (mVar 0) (mNil)))))) (mRaise "UnknownRow" ["row"] (mCons (mVar 1) (mNil))) (mNext))
def b_Store_drop : DFn := fnD 2 3 (mSeq (mExp (mCallM (look2 [("Store", "look_at_row", b_Store_look_at_row), ("Page", "twin", b_Page_twin), ("Store", "page", b_Store_page), ("Page", "forget", b_Page_forget)]) "look_at_row" (mVar 0) (mCons (mVar 1) (mNil)))) (mSeq (mSet 2 (mCallM (look2 [("Store", "look_at_row", b_Store_look_at_row), ("Page", "twin", b_Page_twin), ("Store", "page", b_Store_page), ("Page", "forget", b_Page_forget)]) "twin" (mCallM (look2 [("Store", "look_at_row", b_Store_look_at_row), ("Page", "twin", b_Page_twin), ("Store", "page", b_Store_page), ("Page", "forget", b_Page_forget)]) "page" (mVar 0) (mNil)) (mCons (mTup (mCons (mCst (.str "drop")) (mCons (mVar 1) (mNil)))) (mNil)))) (mSeq (mExp (mCallM (look2 [("Store", "look_at_row", b_Store_look_at_row), ("Page", "twin", b_Page_twin), ("Store", "page", b_Store_page), ("Page", "forget", b_Page_forget)]) "forget" (mVar 2) (mCons (mLst (mCons (mVar 1) (mNil))) (mCons (mCst (.bl false)) (mNil))))) (mExp (mCallM (look2 [("Store", "look_at_row", b_Store_look_at_row), ("Page", "twin", b_Page_twin), ("Store", "page", b_Store_page), ("Page", "forget", b_Page_forget)]) "append" (mAttr noT CWP.fl "pages" (mVar 0)) (mCons (mVar 2) (mNil)))))))
def b_Store_kind_named : DFn := fnD 2 2 (mSeq (mIfS (mOrT (mNotT (mTest (mIsi (ioF CWP.cls) CWP.ic (.bi "str") (mVar 1)))) (mTest (mBin (oInA true) (mVar 1) (mAttr noT CWP.fl "names" (mCallM (look2 [("Store", "page", b_Store_page)]) "page" (mVar 0) (mNil)))))) (mRaise "UnknownKind" ["kind"] (mCons (mVar 1) (mNil))) (mNext)) (mRet (mCallM (look2 [("Store", "page", b_Store_page)]) "index" (mAttr noT CWP.fl "names" (mCallM (look2 [("Store", "page", b_Store_page)]) "page" (mVar 0) (mNil))) (mCons (mVar 1) (mNil)))))
def b_Store_make : DFn := fnD 2 5 (mSeq (mSet 2 (mCallM (look2 [("Store", "kind_named", b_Store_kind_named), ("Page", "twin", b_Page_twin), ("Store", "page", b_Store_page)]) "kind_named" (mVar 0) (mCons (mVar 1) (mNil)))) (mSeq (mSet 3 (mCallM (look2 [("Store", "kind_named", b_Store_kind_named), ("Page", "twin", b_Page_twin), ("Store", "page", b_Store_page)]) "twin" (mCallM (look2 [("Store", "kind_named", b_Store_kind_named), ("Page", "twin", b_Page_twin), ("Store", "page", b_Store_page)]) "page" (mVar 0) (mNil)) (mCons (mTup (mCons (mCst (.str "make")) (mCons (mVar 1) (mNil)))) (mNil)))) (mSeq (mSet 4 (mCst (.int 1))) (mSeq (mWhile (mOrT (mTest (mBin (oInA false) (mVar 4) (mBin oIx (mAttr noT CWP.fl "numbers" (mVar 3)) (mVar 2)))) (mTest (mBin (oInA false) (mVar 4) (mBin oIx (mAttr noT CWP.fl "resting_now" (mVar 3)) (mVar 2))))) (mAug 4 (mCst (.int 1))) 100000) (mSeq (mSetIx (mAttr noT CWP.fl "fresh" (mVar 3)) (mBin oIx (mAttr noT CWP.fl "numbers" (mVar 3)) (mVar 2)) (mVar 4)) (mSeq (mAugF CWP.fl "fresh" (mVar 3) (mCst (.int 1))) (mSeq (mExp (mCallM (look2 [("Store", "kind_named", b_Store_kind_named), ("Page", "twin", b_Page_twin), ("Store", "page", b_Store_page)]) "append" (mAttr noT CWP.fl "pages" (mVar 0)) (mCons (mVar 3) (mNil)))) (mRet (mVar 4)))))))))
def b_Store_look_at_thing : DFn := fnD 3 4 (mSeq (mSet 3 (mCallM (look2 [("Store", "kind_named", b_Store_kind_named), ("Store", "page", b_Store_page)]) "kind_named" (mVar 0) (mCons (mVar 1) (mNil)))) (mSeq (mIfS (mOrT (mNotT (mTest (mCallF b_is_integer [] (mCons (mVar 2) (mNil))))) (mTest (mBin (oInA true) (mVar 2) (mBin oIx (mAttr noT CWP.fl "numbers" (mCallM (look2 [("Store", "kind_named", b_Store_kind_named), ("Store", "page", b_Store_page)]) "page" (mVar 0) (mNil))) (mVar 3))))) (mRaise "UnknownThing" ["kind", "number"] (mCons (mVar 1) (mCons (mVar 2) (mNil)))) (mNext)) (mRet (mVar 3))))
def b_Store_point : DFn := fnD 4 6 (mSeq (mSet 4 (mCallM (look2 [("Store", "look_at_thing", b_Store_look_at_thing), ("Page", "twin", b_Page_twin), ("Store", "page", b_Store_page)]) "look_at_thing" (mVar 0) (mCons (mVar 2) (mCons (mVar 3) (mNil))))) (mSeq (mIfS (mNotT (mTest (mCallF b_is_name [] (mCons (mVar 1) (mNil))))) (mRaise "BadRow" ["row"] (mCons (mVar 1) (mNil))) (mNext)) (mSeq (mSet 5 (mCallM (look2 [("Store", "look_at_thing", b_Store_look_at_thing), ("Page", "twin", b_Page_twin), ("Store", "page", b_Store_page)]) "twin" (mCallM (look2 [("Store", "look_at_thing", b_Store_look_at_thing), ("Page", "twin", b_Page_twin), ("Store", "page", b_Store_page)]) "page" (mVar 0) (mNil)) (mCons (mTup (mCons (mCst (.str "point")) (mCons (mVar 1) (mCons (mVar 2) (mCons (mVar 3) (mNil)))))) (mNil)))) (mSeq (mSetIx (mTup (mCons (mVar 2) (mCons (mVar 3) (mNil)))) (mAttr noT CWP.fl "pointers" (mVar 5)) (mVar 1)) (mSeq (mSetIx (mBin oIx (mBin oIx (mAttr noT CWP.fl "numbers" (mVar 5)) (mVar 4)) (mVar 3)) (mAttr noT CWP.fl "meant" (mVar 5)) (mVar 1)) (mExp (mCallM (look2 [("Store", "look_at_thing", b_Store_look_at_thing), ("Page", "twin", b_Page_twin), ("Store", "page", b_Store_page)]) "append" (mAttr noT CWP.fl "pages" (mVar 0)) (mCons (mVar 5) (mNil)))))))))
def b_Store_rename : DFn := fnD 3 6 (mSeq (mSet 3 (mCallM (look2 [("Store", "kind_named", b_Store_kind_named), ("Store", "page", b_Store_page), ("Page", "twin", b_Page_twin), ("Store", "looks_after", b_Store_looks_after)]) "kind_named" (mVar 0) (mCons (mVar 1) (mNil)))) (mSeq (mIfS (mOrT (mNotT (mTest (mCallF b_is_name [] (mCons (mVar 2) (mNil))))) (mTest (mBin (oInA false) (mVar 2) (mAttr noT CWP.fl "names" (mCallM (look2 [("Store", "kind_named", b_Store_kind_named), ("Store", "page", b_Store_page), ("Page", "twin", b_Page_twin), ("Store", "looks_after", b_Store_looks_after)]) "page" (mVar 0) (mNil)))))) (mBadS) (mNext)) (mSeq (mSet 4 (mCallM (look2 [("Store", "kind_named", b_Store_kind_named), ("Store", "page", b_Store_page), ("Page", "twin", b_Page_twin), ("Store", "looks_after", b_Store_looks_after)]) "twin" (mCallM (look2 [("Store", "kind_named", b_Store_kind_named), ("Store", "page", b_Store_page), ("Page", "twin", b_Page_twin), ("Store", "looks_after", b_Store_looks_after)]) "page" (mVar 0) (mNil)) (mCons (mTup (mCons (mCst (.str "rename")) (mCons (mVar 1) (mCons (mVar 2) (mNil))))) (mNil)))) (mSeq (mSetIx (mVar 2) (mAttr noT CWP.fl "names" (mVar 4)) (mVar 3)) (mSeq (mIfS (mTest (mCallM (look2 [("Store", "kind_named", b_Store_kind_named), ("Store", "page", b_Store_page), ("Page", "twin", b_Page_twin), ("Store", "looks_after", b_Store_looks_after)]) "looks_after" (mVar 0) (mCons (mCst (.str "rename")) (mNil)))) (mFor (mSrc (mCallB oList (mCons (mAttr noT CWP.fl "pointers" (mVar 4)) (mNil)))) (gSet 5) (mIfS (mTest (mBin (oEqF (look2 [("Store", "kind_named", b_Store_kind_named), ("Store", "page", b_Store_page), ("Page", "twin", b_Page_twin), ("Store", "looks_after", b_Store_looks_after)]) CWP.nf CWP.ic) (mBin oIx (mBin oIx (mAttr noT CWP.fl "pointers" (mVar 4)) (mVar 5)) (mCst (.int 0))) (mVar 1))) (mSetIx (mTup (mCons (mVar 2) (mCons (mBin oIx (mBin oIx (mAttr noT CWP.fl "pointers" (mVar 4)) (mVar 5)) (mCst (.int 1))) (mNil)))) (mAttr noT CWP.fl "pointers" (mVar 4)) (mVar 5)) (mNext))) (mNext)) (mExp (mCallM (look2 [("Store", "kind_named", b_Store_kind_named), ("Store", "page", b_Store_page), ("Page", "twin", b_Page_twin), ("Store", "looks_after", b_Store_looks_after)]) "append" (mAttr noT CWP.fl "pages" (mVar 0)) (mCons (mVar 4) (mNil)))))))))
def b_Page_let_rest : DFn := fnD 4 4 (mSeq (mDelIx (mBin oIx (mAttr noT CWP.fl "numbers" (mVar 0)) (mVar 1)) (mVar 2)) (mIfS (mTest (mBin (oCmp fun i j => decide (j < i)) (mVar 3) (mCst (.int 0)))) (mSetIx (mVar 3) (mBin oIx (mAttr noT CWP.fl "resting_now" (mVar 0)) (mVar 1)) (mVar 2)) (mNext)))
def b_Store_renumber : DFn := fnD 4 10 (mSeq (mSet 4 (mCallM (look2 [("Store", "look_at_thing", b_Store_look_at_thing), ("Page", "twin", b_Page_twin), ("Store", "page", b_Store_page), ("Page", "led_to", b_Page_led_to), ("Page", "let_rest", b_Page_let_rest), ("Store", "looks_after", b_Store_looks_after)]) "look_at_thing" (mVar 0) (mCons (mVar 1) (mCons (mVar 2) (mNil))))) (mSeq (mSet 5 (mCallM (look2 [("Store", "look_at_thing", b_Store_look_at_thing), ("Page", "twin", b_Page_twin), ("Store", "page", b_Store_page), ("Page", "led_to", b_Page_led_to), ("Page", "let_rest", b_Page_let_rest), ("Store", "looks_after", b_Store_looks_after)]) "twin" (mCallM (look2 [("Store", "look_at_thing", b_Store_look_at_thing), ("Page", "twin", b_Page_twin), ("Store", "page", b_Store_page), ("Page", "led_to", b_Page_led_to), ("Page", "let_rest", b_Page_let_rest), ("Store", "looks_after", b_Store_looks_after)]) "page" (mVar 0) (mNil)) (mCons (mTup (mCons (mCst (.str "renumber")) (mCons (mVar 1) (mCons (mVar 2) (mCons (mVar 3) (mNil)))))) (mNil)))) (mSeq (mIfS (mOrT (mNotT (mTest (mCallF b_is_between [] (mCons (mVar 3) (mCons (mCst (.int 1)) (mCons (mCst (.int 1000)) (mNil))))))) (mOrT (mTest (mBin (oInA false) (mVar 3) (mBin oIx (mAttr noT CWP.fl "numbers" (mVar 5)) (mVar 4)))) (mTest (mBin (oInA false) (mVar 3) (mBin oIx (mAttr noT CWP.fl "resting_now" (mVar 5)) (mVar 4)))))) (mBadS) (mNext)) (mSeq (mSet 6 (mLc (mSrc (mAttr noT CWP.fl "pointers" (mVar 5))) [8, 9] (gSet 9) (mTest (mBin (oEqF (look2 [("Store", "look_at_thing", b_Store_look_at_thing), ("Page", "twin", b_Page_twin), ("Store", "page", b_Store_page), ("Page", "led_to", b_Page_led_to), ("Page", "let_rest", b_Page_let_rest), ("Store", "looks_after", b_Store_looks_after)]) CWP.nf CWP.ic) (mCallM (look2 [("Store", "look_at_thing", b_Store_look_at_thing), ("Page", "twin", b_Page_twin), ("Store", "page", b_Store_page), ("Page", "led_to", b_Page_led_to), ("Page", "let_rest", b_Page_let_rest), ("Store", "looks_after", b_Store_looks_after)]) "led_to" (mVar 5) (mCons (mVar 9) (mNil))) (mTup (mCons (mVar 4) (mCons (mVar 2) (mNil)))))) (mVar 9))) (mSeq (mSet 7 (mBin oIx (mBin oIx (mAttr noT CWP.fl "numbers" (mVar 5)) (mVar 4)) (mVar 2))) (mSeq (mExp (mCallM (look2 [("Store", "look_at_thing", b_Store_look_at_thing), ("Page", "twin", b_Page_twin), ("Store", "page", b_Store_page), ("Page", "led_to", b_Page_led_to), ("Page", "let_rest", b_Page_let_rest), ("Store", "looks_after", b_Store_looks_after)]) "let_rest" (mVar 5) (mCons (mVar 4) (mCons (mVar 2) (mCons (mAttr noT CWP.fl "nights" (mAttr noT CWP.fl "rule_now" (mVar 0))) (mNil)))))) (mSeq (mSetIx (mVar 7) (mBin oIx (mAttr noT CWP.fl "numbers" (mVar 5)) (mVar 4)) (mVar 3)) (mSeq (mIfS (mTest (mCallM (look2 [("Store", "look_at_thing", b_Store_look_at_thing), ("Page", "twin", b_Page_twin), ("Store", "page", b_Store_page), ("Page", "led_to", b_Page_led_to), ("Page", "let_rest", b_Page_let_rest), ("Store", "looks_after", b_Store_looks_after)]) "looks_after" (mVar 0) (mCons (mCst (.str "renumber")) (mNil)))) (mExp (mCallM (look2 [("Store", "look_at_thing", b_Store_look_at_thing), ("Page", "twin", b_Page_twin), ("Store", "page", b_Store_page), ("Page", "led_to", b_Page_led_to), ("Page", "let_rest", b_Page_let_rest), ("Store", "looks_after", b_Store_looks_after)]) "update" (mAttr noT CWP.fl "pointers" (mVar 5)) (mCons (bE) (mNil)))) (mNext)) (mExp (mCallM (look2 [("Store", "look_at_thing", b_Store_look_at_thing), ("Page", "twin", b_Page_twin), ("Store", "page", b_Store_page), ("Page", "led_to", b_Page_led_to), ("Page", "let_rest", b_Page_let_rest), ("Store", "looks_after", b_Store_looks_after)]) "append" (mAttr noT CWP.fl "pages" (mVar 0)) (mCons (mVar 5) (mNil))))))))))))
def b_Store_take : DFn := fnD 3 8 (mSeq (mSet 3 (mCallM (look2 [("Store", "look_at_thing", b_Store_look_at_thing), ("Page", "twin", b_Page_twin), ("Store", "page", b_Store_page), ("Page", "led_to", b_Page_led_to), ("Page", "let_rest", b_Page_let_rest), ("Store", "looks_after", b_Store_looks_after), ("Page", "forget", b_Page_forget)]) "look_at_thing" (mVar 0) (mCons (mVar 1) (mCons (mVar 2) (mNil))))) (mSeq (mSet 4 (mCallM (look2 [("Store", "look_at_thing", b_Store_look_at_thing), ("Page", "twin", b_Page_twin), ("Store", "page", b_Store_page), ("Page", "led_to", b_Page_led_to), ("Page", "let_rest", b_Page_let_rest), ("Store", "looks_after", b_Store_looks_after), ("Page", "forget", b_Page_forget)]) "twin" (mCallM (look2 [("Store", "look_at_thing", b_Store_look_at_thing), ("Page", "twin", b_Page_twin), ("Store", "page", b_Store_page), ("Page", "led_to", b_Page_led_to), ("Page", "let_rest", b_Page_let_rest), ("Store", "looks_after", b_Store_looks_after), ("Page", "forget", b_Page_forget)]) "page" (mVar 0) (mNil)) (mCons (mTup (mCons (mCst (.str "take")) (mCons (mVar 1) (mCons (mVar 2) (mNil))))) (mNil)))) (mSeq (mSet 5 (mLc (mSrc (mAttr noT CWP.fl "pointers" (mVar 4))) [6, 7] (gSet 7) (mTest (mBin (oEqF (look2 [("Store", "look_at_thing", b_Store_look_at_thing), ("Page", "twin", b_Page_twin), ("Store", "page", b_Store_page), ("Page", "led_to", b_Page_led_to), ("Page", "let_rest", b_Page_let_rest), ("Store", "looks_after", b_Store_looks_after), ("Page", "forget", b_Page_forget)]) CWP.nf CWP.ic) (mCallM (look2 [("Store", "look_at_thing", b_Store_look_at_thing), ("Page", "twin", b_Page_twin), ("Store", "page", b_Store_page), ("Page", "led_to", b_Page_led_to), ("Page", "let_rest", b_Page_let_rest), ("Store", "looks_after", b_Store_looks_after), ("Page", "forget", b_Page_forget)]) "led_to" (mVar 4) (mCons (mVar 7) (mNil))) (mTup (mCons (mVar 3) (mCons (mVar 2) (mNil)))))) (mVar 7))) (mSeq (mExp (mCallM (look2 [("Store", "look_at_thing", b_Store_look_at_thing), ("Page", "twin", b_Page_twin), ("Store", "page", b_Store_page), ("Page", "led_to", b_Page_led_to), ("Page", "let_rest", b_Page_let_rest), ("Store", "looks_after", b_Store_looks_after), ("Page", "forget", b_Page_forget)]) "let_rest" (mVar 4) (mCons (mVar 3) (mCons (mVar 2) (mCons (mAttr noT CWP.fl "nights" (mAttr noT CWP.fl "rule_now" (mVar 0))) (mNil)))))) (mSeq (mIfS (mTest (mCallM (look2 [("Store", "look_at_thing", b_Store_look_at_thing), ("Page", "twin", b_Page_twin), ("Store", "page", b_Store_page), ("Page", "led_to", b_Page_led_to), ("Page", "let_rest", b_Page_let_rest), ("Store", "looks_after", b_Store_looks_after), ("Page", "forget", b_Page_forget)]) "looks_after" (mVar 0) (mCons (mCst (.str "take")) (mNil)))) (mExp (mCallM (look2 [("Store", "look_at_thing", b_Store_look_at_thing), ("Page", "twin", b_Page_twin), ("Store", "page", b_Store_page), ("Page", "led_to", b_Page_led_to), ("Page", "let_rest", b_Page_let_rest), ("Store", "looks_after", b_Store_looks_after), ("Page", "forget", b_Page_forget)]) "forget" (mVar 4) (mCons (mVar 5) (mCons (mCst (.bl true)) (mNil))))) (mNext)) (mExp (mCallM (look2 [("Store", "look_at_thing", b_Store_look_at_thing), ("Page", "twin", b_Page_twin), ("Store", "page", b_Store_page), ("Page", "led_to", b_Page_led_to), ("Page", "let_rest", b_Page_let_rest), ("Store", "looks_after", b_Store_looks_after), ("Page", "forget", b_Page_forget)]) "append" (mAttr noT CWP.fl "pages" (mVar 0)) (mCons (mVar 4) (mNil)))))))))
def b_Page_rest_less : DFn := fnD 1 3 (mFor (mSrc (mAttr noT CWP.fl "resting_now" (mVar 0))) (gSet 1) (mFor (mSrc (mCallB oList (mCons (mVar 1) (mNil)))) (gSet 2) (mSeq (mSetIx (mBin oSub (mBin oIx (mVar 1) (mVar 2)) (mCst (.int 1))) (mVar 1) (mVar 2)) (mIfS (mTest (mBin (oEqF noT CWP.nf CWP.ic) (mBin oIx (mVar 1) (mVar 2)) (mCst (.int 0)))) (mDelIx (mVar 1) (mVar 2)) (mNext)))))
def b_Store_work : DFn := fnD 1 5 (mSeq (mSet 1 (mBin oIx (mAttr noT CWP.fl "in_turn" (mAttr noT CWP.fl "rule_now" (mVar 0))) (mAttr noT CWP.fl "turn" (mCallM (look2 [("Store", "page", b_Store_page), ("Page", "twin", b_Page_twin), ("Page", "rest_less", b_Page_rest_less), ("Page", "forget", b_Page_forget), ("Page", "led_to", b_Page_led_to)]) "page" (mVar 0) (mNil))))) (mSeq (mSet 2 (mCallM (look2 [("Store", "page", b_Store_page), ("Page", "twin", b_Page_twin), ("Page", "rest_less", b_Page_rest_less), ("Page", "forget", b_Page_forget), ("Page", "led_to", b_Page_led_to)]) "twin" (mCallM (look2 [("Store", "page", b_Store_page), ("Page", "twin", b_Page_twin), ("Page", "rest_less", b_Page_rest_less), ("Page", "forget", b_Page_forget), ("Page", "led_to", b_Page_led_to)]) "page" (mVar 0) (mNil)) (mCons (mTup (mCons (mCst (.str "work")) (mNil))) (mNil)))) (mSeq (mFld CWP.fl "turn" (mBin oMod (mBin oAdd (mAttr noT CWP.fl "turn" (mVar 2)) (mCst (.int 1))) (mCallB oLen (mCons (mAttr noT CWP.fl "in_turn" (mAttr noT CWP.fl "rule_now" (mVar 0))) (mNil)))) (mVar 2)) (mSeq (mIfS (mTest (mBin (oEqF (look2 [("Store", "page", b_Store_page), ("Page", "twin", b_Page_twin), ("Page", "rest_less", b_Page_rest_less), ("Page", "forget", b_Page_forget), ("Page", "led_to", b_Page_led_to)]) CWP.nf CWP.ic) (mVar 1) (mCst (.str "free")))) (mExp (mCallM (look2 [("Store", "page", b_Store_page), ("Page", "twin", b_Page_twin), ("Page", "rest_less", b_Page_rest_less), ("Page", "forget", b_Page_forget), ("Page", "led_to", b_Page_led_to)]) "rest_less" (mVar 2) (mNil))) (mExp (mCallM (look2 [("Store", "page", b_Store_page), ("Page", "twin", b_Page_twin), ("Page", "rest_less", b_Page_rest_less), ("Page", "forget", b_Page_forget), ("Page", "led_to", b_Page_led_to)]) "forget" (mVar 2) (mCons (mLc (mSrc (mAttr noT CWP.fl "pointers" (mVar 2))) [3, 4] (gSet 4) (mTest (mIsN false (mCallM (look2 [("Store", "page", b_Store_page), ("Page", "twin", b_Page_twin), ("Page", "rest_less", b_Page_rest_less), ("Page", "forget", b_Page_forget), ("Page", "led_to", b_Page_led_to)]) "led_to" (mVar 2) (mCons (mVar 4) (mNil))))) (mVar 4)) (mCons (mCst (.bl true)) (mNil)))))) (mSeq (mExp (mCallM (look2 [("Store", "page", b_Store_page), ("Page", "twin", b_Page_twin), ("Page", "rest_less", b_Page_rest_less), ("Page", "forget", b_Page_forget), ("Page", "led_to", b_Page_led_to)]) "append" (mAttr noT CWP.fl "pages" (mVar 0)) (mCons (mVar 2) (mNil)))) (mRet (mVar 1)))))))
def b__law_call : DFn := fnD 2 2 (mSeq (mIfS (mTest (mBin (oEqF (look2 [("Store", "make", b_Store_make), ("Store", "take", b_Store_take), ("Store", "renumber", b_Store_renumber), ("Store", "rename", b_Store_rename), ("Store", "copy", b_Store_copy), ("Store", "work", b_Store_work), ("Store", "point", b_Store_point), ("Store", "drop", b_Store_drop)]) CWP.nf CWP.ic) (mBin oIx (mVar 1) (mCst (.int 0))) (mCst (.str "make")))) (mRet (mCallM (look2 [("Store", "make", b_Store_make), ("Store", "take", b_Store_take), ("Store", "renumber", b_Store_renumber), ("Store", "rename", b_Store_rename), ("Store", "copy", b_Store_copy), ("Store", "work", b_Store_work), ("Store", "point", b_Store_point), ("Store", "drop", b_Store_drop)]) "make" (mVar 0) (mCons (mBin oIx (mVar 1) (mCst (.int 1))) (mNil)))) (mNext)) (mSeq (mIfS (mTest (mBin (oEqF (look2 [("Store", "make", b_Store_make), ("Store", "take", b_Store_take), ("Store", "renumber", b_Store_renumber), ("Store", "rename", b_Store_rename), ("Store", "copy", b_Store_copy), ("Store", "work", b_Store_work), ("Store", "point", b_Store_point), ("Store", "drop", b_Store_drop)]) CWP.nf CWP.ic) (mBin oIx (mVar 1) (mCst (.int 0))) (mCst (.str "take")))) (mRet (mCallM (look2 [("Store", "make", b_Store_make), ("Store", "take", b_Store_take), ("Store", "renumber", b_Store_renumber), ("Store", "rename", b_Store_rename), ("Store", "copy", b_Store_copy), ("Store", "work", b_Store_work), ("Store", "point", b_Store_point), ("Store", "drop", b_Store_drop)]) "take" (mVar 0) (mCons (mBin oIx (mVar 1) (mCst (.int 1))) (mCons (mBin oIx (mVar 1) (mCst (.int 2))) (mNil))))) (mNext)) (mSeq (mIfS (mTest (mBin (oEqF (look2 [("Store", "make", b_Store_make), ("Store", "take", b_Store_take), ("Store", "renumber", b_Store_renumber), ("Store", "rename", b_Store_rename), ("Store", "copy", b_Store_copy), ("Store", "work", b_Store_work), ("Store", "point", b_Store_point), ("Store", "drop", b_Store_drop)]) CWP.nf CWP.ic) (mBin oIx (mVar 1) (mCst (.int 0))) (mCst (.str "renumber")))) (mRet (mCallM (look2 [("Store", "make", b_Store_make), ("Store", "take", b_Store_take), ("Store", "renumber", b_Store_renumber), ("Store", "rename", b_Store_rename), ("Store", "copy", b_Store_copy), ("Store", "work", b_Store_work), ("Store", "point", b_Store_point), ("Store", "drop", b_Store_drop)]) "renumber" (mVar 0) (mCons (mBin oIx (mVar 1) (mCst (.int 1))) (mCons (mBin oIx (mVar 1) (mCst (.int 2))) (mCons (mBin oIx (mVar 1) (mCst (.int 3))) (mNil)))))) (mNext)) (mSeq (mIfS (mTest (mBin (oEqF (look2 [("Store", "make", b_Store_make), ("Store", "take", b_Store_take), ("Store", "renumber", b_Store_renumber), ("Store", "rename", b_Store_rename), ("Store", "copy", b_Store_copy), ("Store", "work", b_Store_work), ("Store", "point", b_Store_point), ("Store", "drop", b_Store_drop)]) CWP.nf CWP.ic) (mBin oIx (mVar 1) (mCst (.int 0))) (mCst (.str "rename")))) (mRet (mCallM (look2 [("Store", "make", b_Store_make), ("Store", "take", b_Store_take), ("Store", "renumber", b_Store_renumber), ("Store", "rename", b_Store_rename), ("Store", "copy", b_Store_copy), ("Store", "work", b_Store_work), ("Store", "point", b_Store_point), ("Store", "drop", b_Store_drop)]) "rename" (mVar 0) (mCons (mBin oIx (mVar 1) (mCst (.int 1))) (mCons (mBin oIx (mVar 1) (mCst (.int 2))) (mNil))))) (mNext)) (mSeq (mIfS (mTest (mBin (oEqF (look2 [("Store", "make", b_Store_make), ("Store", "take", b_Store_take), ("Store", "renumber", b_Store_renumber), ("Store", "rename", b_Store_rename), ("Store", "copy", b_Store_copy), ("Store", "work", b_Store_work), ("Store", "point", b_Store_point), ("Store", "drop", b_Store_drop)]) CWP.nf CWP.ic) (mBin oIx (mVar 1) (mCst (.int 0))) (mCst (.str "copy")))) (mRet (mCallM (look2 [("Store", "make", b_Store_make), ("Store", "take", b_Store_take), ("Store", "renumber", b_Store_renumber), ("Store", "rename", b_Store_rename), ("Store", "copy", b_Store_copy), ("Store", "work", b_Store_work), ("Store", "point", b_Store_point), ("Store", "drop", b_Store_drop)]) "copy" (mVar 0) (mNil))) (mNext)) (mSeq (mIfS (mTest (mBin (oEqF (look2 [("Store", "make", b_Store_make), ("Store", "take", b_Store_take), ("Store", "renumber", b_Store_renumber), ("Store", "rename", b_Store_rename), ("Store", "copy", b_Store_copy), ("Store", "work", b_Store_work), ("Store", "point", b_Store_point), ("Store", "drop", b_Store_drop)]) CWP.nf CWP.ic) (mBin oIx (mVar 1) (mCst (.int 0))) (mCst (.str "work")))) (mRet (mCallM (look2 [("Store", "make", b_Store_make), ("Store", "take", b_Store_take), ("Store", "renumber", b_Store_renumber), ("Store", "rename", b_Store_rename), ("Store", "copy", b_Store_copy), ("Store", "work", b_Store_work), ("Store", "point", b_Store_point), ("Store", "drop", b_Store_drop)]) "work" (mVar 0) (mNil))) (mNext)) (mSeq (mIfS (mTest (mBin (oEqF (look2 [("Store", "make", b_Store_make), ("Store", "take", b_Store_take), ("Store", "renumber", b_Store_renumber), ("Store", "rename", b_Store_rename), ("Store", "copy", b_Store_copy), ("Store", "work", b_Store_work), ("Store", "point", b_Store_point), ("Store", "drop", b_Store_drop)]) CWP.nf CWP.ic) (mBin oIx (mVar 1) (mCst (.int 0))) (mCst (.str "point")))) (mRet (mCallM (look2 [("Store", "make", b_Store_make), ("Store", "take", b_Store_take), ("Store", "renumber", b_Store_renumber), ("Store", "rename", b_Store_rename), ("Store", "copy", b_Store_copy), ("Store", "work", b_Store_work), ("Store", "point", b_Store_point), ("Store", "drop", b_Store_drop)]) "point" (mVar 0) (mCons (mBin oIx (mVar 1) (mCst (.int 1))) (mCons (mBin oIx (mVar 1) (mCst (.int 2))) (mCons (mBin oIx (mVar 1) (mCst (.int 3))) (mNil)))))) (mNext)) (mRet (mCallM (look2 [("Store", "make", b_Store_make), ("Store", "take", b_Store_take), ("Store", "renumber", b_Store_renumber), ("Store", "rename", b_Store_rename), ("Store", "copy", b_Store_copy), ("Store", "work", b_Store_work), ("Store", "point", b_Store_point), ("Store", "drop", b_Store_drop)]) "drop" (mVar 0) (mCons (mBin oIx (mVar 1) (mCst (.int 1))) (mNil)))))))))))
def b_Store_astray : DFn := fnD 1 5 (mSeq (mSet 1 (mCallM (look2 [("Store", "page", b_Store_page), ("Page", "led_to", b_Page_led_to), ("Page", "place_meant", b_Page_place_meant)]) "page" (mVar 0) (mNil))) (mSeq (mSet 2 (mLst (mNil))) (mSeq (mFor (mSrc (mCallB oSorted (mCons (mCallB oList (mCons (mAttr noT CWP.fl "pointers" (mVar 1)) (mNil))) (mNil)))) (gSet 3) (mSeq (mSet 4 (mCallM (look2 [("Store", "page", b_Store_page), ("Page", "led_to", b_Page_led_to), ("Page", "place_meant", b_Page_place_meant)]) "led_to" (mVar 1) (mCons (mVar 3) (mNil)))) (mIfS (mTest (mIsN false (mVar 4))) (mExp (mCallM (look2 [("Store", "page", b_Store_page), ("Page", "led_to", b_Page_led_to), ("Page", "place_meant", b_Page_place_meant)]) "append" (mVar 2) (mCons (mTup (mCons (mVar 3) (mCons (mCst (.str "nowhere")) (mNil)))) (mNil)))) (mIfS (mTest (mBin (oEq true) (mVar 4) (mCallM (look2 [("Store", "page", b_Store_page), ("Page", "led_to", b_Page_led_to), ("Page", "place_meant", b_Page_place_meant)]) "place_meant" (mVar 1) (mCons (mVar 3) (mNil))))) (mExp (mCallM (look2 [("Store", "page", b_Store_page), ("Page", "led_to", b_Page_led_to), ("Page", "place_meant", b_Page_place_meant)]) "append" (mVar 2) (mCons (mTup (mCons (mVar 3) (mCons (mCst (.str "other")) (mNil)))) (mNil)))) (mNext))))) (mRet (mVar 2)))))
def b_Store_kinds : DFn := fnD 1 1 (mRet (mCallB oSorted (mCons (mAttr noT CWP.fl "names" (mCallM (look2 [("Store", "page", b_Store_page)]) "page" (mVar 0) (mNil))) (mNil))))
def b_Store_named : DFn := fnD 2 2 (mRet (mIf (mTest (mIsN false (mVar 1))) (mCst .non) (mTup (mCons (mBin oIx (mAttr noT CWP.fl "names" (mCallM (look2 [("Store", "page", b_Store_page)]) "page" (mVar 0) (mNil))) (mBin oIx (mVar 1) (mCst (.int 0)))) (mCons (mBin oIx (mVar 1) (mCst (.int 1))) (mNil))))))
def b_Store_leads : DFn := fnD 2 2 (mSeq (mExp (mCallM (look2 [("Store", "look_at_row", b_Store_look_at_row), ("Store", "named", b_Store_named), ("Page", "led_to", b_Page_led_to), ("Store", "page", b_Store_page)]) "look_at_row" (mVar 0) (mCons (mVar 1) (mNil)))) (mRet (mCallM (look2 [("Store", "look_at_row", b_Store_look_at_row), ("Store", "named", b_Store_named), ("Page", "led_to", b_Page_led_to), ("Store", "page", b_Store_page)]) "named" (mVar 0) (mCons (mCallM (look2 [("Store", "look_at_row", b_Store_look_at_row), ("Store", "named", b_Store_named), ("Page", "led_to", b_Page_led_to), ("Store", "page", b_Store_page)]) "led_to" (mCallM (look2 [("Store", "look_at_row", b_Store_look_at_row), ("Store", "named", b_Store_named), ("Page", "led_to", b_Page_led_to), ("Store", "page", b_Store_page)]) "page" (mVar 0) (mNil)) (mCons (mVar 1) (mNil))) (mNil)))))
def b_Store_lost : DFn := fnD 1 1 (mRet (mCallB oList (mCons (mAttr noT CWP.fl "lost_rows" (mCallM (look2 [("Store", "page", b_Store_page)]) "page" (mVar 0) (mNil))) (mNil))))
def b_Store_means : DFn := fnD 2 2 (mSeq (mExp (mCallM (look2 [("Store", "look_at_row", b_Store_look_at_row), ("Store", "named", b_Store_named), ("Page", "place_meant", b_Page_place_meant), ("Store", "page", b_Store_page)]) "look_at_row" (mVar 0) (mCons (mVar 1) (mNil)))) (mRet (mCallM (look2 [("Store", "look_at_row", b_Store_look_at_row), ("Store", "named", b_Store_named), ("Page", "place_meant", b_Page_place_meant), ("Store", "page", b_Store_page)]) "named" (mVar 0) (mCons (mCallM (look2 [("Store", "look_at_row", b_Store_look_at_row), ("Store", "named", b_Store_named), ("Page", "place_meant", b_Page_place_meant), ("Store", "page", b_Store_page)]) "place_meant" (mCallM (look2 [("Store", "look_at_row", b_Store_look_at_row), ("Store", "named", b_Store_named), ("Page", "place_meant", b_Page_place_meant), ("Store", "page", b_Store_page)]) "page" (mVar 0) (mNil)) (mCons (mVar 1) (mNil))) (mNil)))))
def b_Store_resting : DFn := fnD 2 5 (mSeq (mSet 2 (mBin oIx (mAttr noT CWP.fl "resting_now" (mCallM (look2 [("Store", "page", b_Store_page), ("Store", "kind_named", b_Store_kind_named)]) "page" (mVar 0) (mNil))) (mCallM (look2 [("Store", "page", b_Store_page), ("Store", "kind_named", b_Store_kind_named)]) "kind_named" (mVar 0) (mCons (mVar 1) (mNil))))) (mRet (bE)))
def b_Store_rows : DFn := fnD 1 4 (mSeq (mSet 1 (mAttr noT CWP.fl "pointers" (mCallM (look2 [("Store", "page", b_Store_page)]) "page" (mVar 0) (mNil)))) (mRet (bE)))
def b_Store_things : DFn := fnD 2 2 (mRet (mCallB oSorted (mCons (mCallB oList (mCons (mBin oIx (mAttr noT CWP.fl "numbers" (mCallM (look2 [("Store", "page", b_Store_page), ("Store", "kind_named", b_Store_kind_named)]) "page" (mVar 0) (mNil))) (mCallM (look2 [("Store", "page", b_Store_page), ("Store", "kind_named", b_Store_kind_named)]) "kind_named" (mVar 0) (mCons (mVar 1) (mNil)))) (mNil))) (mNil))))
def b__law_has : DFn := fnD 1 4 (mSeq (mSet 1 (mLst (mCons (mCallM (look2 [("Store", "lost", b_Store_lost), ("Store", "astray", b_Store_astray), ("Store", "rows", b_Store_rows), ("Store", "kinds", b_Store_kinds), ("Store", "resting", b_Store_resting), ("Store", "things", b_Store_things), ("Store", "means", b_Store_means), ("Store", "leads", b_Store_leads)]) "kinds" (mVar 0) (mNil)) (mCons (mCallM (look2 [("Store", "lost", b_Store_lost), ("Store", "astray", b_Store_astray), ("Store", "rows", b_Store_rows), ("Store", "kinds", b_Store_kinds), ("Store", "resting", b_Store_resting), ("Store", "things", b_Store_things), ("Store", "means", b_Store_means), ("Store", "leads", b_Store_leads)]) "rows" (mVar 0) (mNil)) (mCons (mCallM (look2 [("Store", "lost", b_Store_lost), ("Store", "astray", b_Store_astray), ("Store", "rows", b_Store_rows), ("Store", "kinds", b_Store_kinds), ("Store", "resting", b_Store_resting), ("Store", "things", b_Store_things), ("Store", "means", b_Store_means), ("Store", "leads", b_Store_leads)]) "astray" (mVar 0) (mNil)) (mCons (mCallM (look2 [("Store", "lost", b_Store_lost), ("Store", "astray", b_Store_astray), ("Store", "rows", b_Store_rows), ("Store", "kinds", b_Store_kinds), ("Store", "resting", b_Store_resting), ("Store", "things", b_Store_things), ("Store", "means", b_Store_means), ("Store", "leads", b_Store_leads)]) "lost" (mVar 0) (mNil)) (mNil))))))) (mSeq (mFor (mSrc (mCallM (look2 [("Store", "lost", b_Store_lost), ("Store", "astray", b_Store_astray), ("Store", "rows", b_Store_rows), ("Store", "kinds", b_Store_kinds), ("Store", "resting", b_Store_resting), ("Store", "things", b_Store_things), ("Store", "means", b_Store_means), ("Store", "leads", b_Store_leads)]) "kinds" (mVar 0) (mNil))) (gSet 2) (mSet 1 (mBin oAdd (mVar 1) (mLst (mCons (mCallM (look2 [("Store", "lost", b_Store_lost), ("Store", "astray", b_Store_astray), ("Store", "rows", b_Store_rows), ("Store", "kinds", b_Store_kinds), ("Store", "resting", b_Store_resting), ("Store", "things", b_Store_things), ("Store", "means", b_Store_means), ("Store", "leads", b_Store_leads)]) "things" (mVar 0) (mCons (mVar 2) (mNil))) (mCons (mCallM (look2 [("Store", "lost", b_Store_lost), ("Store", "astray", b_Store_astray), ("Store", "rows", b_Store_rows), ("Store", "kinds", b_Store_kinds), ("Store", "resting", b_Store_resting), ("Store", "things", b_Store_things), ("Store", "means", b_Store_means), ("Store", "leads", b_Store_leads)]) "resting" (mVar 0) (mCons (mVar 2) (mNil))) (mNil))))))) (mSeq (mFor (mSrc (mCallM (look2 [("Store", "lost", b_Store_lost), ("Store", "astray", b_Store_astray), ("Store", "rows", b_Store_rows), ("Store", "kinds", b_Store_kinds), ("Store", "resting", b_Store_resting), ("Store", "things", b_Store_things), ("Store", "means", b_Store_means), ("Store", "leads", b_Store_leads)]) "rows" (mVar 0) (mNil))) (gSet 3) (mSet 1 (mBin oAdd (mVar 1) (mLst (mCons (mCallM (look2 [("Store", "lost", b_Store_lost), ("Store", "astray", b_Store_astray), ("Store", "rows", b_Store_rows), ("Store", "kinds", b_Store_kinds), ("Store", "resting", b_Store_resting), ("Store", "things", b_Store_things), ("Store", "means", b_Store_means), ("Store", "leads", b_Store_leads)]) "leads" (mVar 0) (mCons (mVar 3) (mNil))) (mCons (mCallM (look2 [("Store", "lost", b_Store_lost), ("Store", "astray", b_Store_astray), ("Store", "rows", b_Store_rows), ("Store", "kinds", b_Store_kinds), ("Store", "resting", b_Store_resting), ("Store", "things", b_Store_things), ("Store", "means", b_Store_means), ("Store", "leads", b_Store_leads)]) "means" (mVar 0) (mCons (mVar 3) (mNil))) (mNil))))))) (mRet (mVar 1)))))
def b__law_due_rows : DFn := fnD 1 4 (mSeq (mSet 1 (mLst (mNil))) (mSeq (mFor (mSrc (mCallB oSorted (mCons (mCallB oList (mCons (mBin oIx (mVar 0) (mCst (.str "rows"))) (mNil))) (mNil)))) (gSet 2) (mSeq (mSet 3 (mCallF b__law_thing_led [] (mCons (mVar 0) (mCons (mVar 2) (mNil))))) (mIfS (mTest (mIsN false (mVar 3))) (mExp (mCallM noT "append" (mVar 1) (mCons (mTup (mCons (mVar 2) (mCons (mCst (.str "nowhere")) (mNil)))) (mNil)))) (mIfS (mTest (mBin (oEq true) (mVar 3) (mBin oIx (mBin oIx (mBin oIx (mVar 0) (mCst (.str "rows"))) (mVar 2)) (mCst (.int 2))))) (mExp (mCallM noT "append" (mVar 1) (mCons (mTup (mCons (mVar 2) (mCons (mCst (.str "other")) (mNil)))) (mNil)))) (mNext))))) (mRet (mVar 1))))
def b__law_due_k08 : DFn := fnD 1 10 (mSeq (mSet 1 (mCallB oSorted (mCons (mCallB oList (mCons (mBin oIx (mVar 0) (mCst (.str "rows"))) (mNil))) (mNil)))) (mSeq (mSet 3 (mLst (mCons (mCallB oSorted (mCons (mCallF b__law_names [] (mCons (mVar 0) (mNil))) (mNil))) (mCons (bE) (mCons (mCallF b__law_due_rows [] (mCons (mVar 0) (mNil))) (mCons (mBin oIx (mVar 0) (mCst (.str "lost"))) (mNil))))))) (mSeq (mFor (mSrc (mCallB oSorted (mCons (mCallF b__law_names [] (mCons (mVar 0) (mNil))) (mNil)))) (gSet 4) (mSeq (mSet 5 (mCallF b__law_kind [] (mCons (mVar 0) (mCons (mVar 4) (mNil))))) (mSeq (mSet 6 (mCallB oSorted (mCons (mCallB oList (mCons (mBin oIx (mVar 5) (mCst (.str "rests"))) (mNil))) (mNil)))) (mSet 3 (mBin oAdd (mVar 3) (mLst (mCons (mCallB oSorted (mCons (mCallB oList (mCons (mBin oIx (mVar 5) (mCst (.str "things"))) (mNil))) (mNil))) (mCons (bE) (mNil))))))))) (mSeq (mFor (mSrc (mVar 1)) (gSet 2) (mSeq (mSet 7 (mCallF b__law_thing_led [] (mCons (mVar 0) (mCons (mVar 2) (mNil))))) (mSet 3 (mBin oAdd (mVar 3) (mLst (mCons (mIf (mTest (mIsN false (mVar 7))) (mCst .non) (mCallF b__law_spot [] (mCons (mVar 0) (mCons (mVar 7) (mNil))))) (mCons (mCallF b__law_spot [] (mCons (mVar 0) (mCons (mBin oIx (mBin oIx (mBin oIx (mVar 0) (mCst (.str "rows"))) (mVar 2)) (mCst (.int 2))) (mNil)))) (mNil)))))))) (mRet (mVar 3))))))
def b_Store___init__ : DFn := fnD 3 5 (mSeq (mIfS (mNotT (mTest (mCallF b_are_kinds [] (mCons (mVar 2) (mNil))))) (mBadS) (mNext)) (mSeq (mFld CWP.fl "rule_now" (mVar 1) (mVar 0)) (mFld CWP.fl "pages" (mLst (mCons (mMake "Page" b_Page___init__ [] (mCons (mCallB oList (mCons (mVar 2) (mNil))) (mCons (mLc (mSrc (mVar 2)) [3, 4] (gSet 4) (mYes) (bE)) (mCons (mLc (mSrc (mVar 2)) [3, 4] (gSet 4) (mYes) (bE)) (mCons (bE) (mCons (bE) (mNil))))))) (mNil))) (mVar 0))))
def b_Store_undo : DFn := fnD 1 1 (mExp (mCallF b__wall [] (mCons (mCst (.int 1)) (mNil))))
def b_Store_log : DFn := fnD 1 1 (mExp (mCallF b__wall [] (mCons (mCst (.int 2)) (mNil))))
def b_Store___len__ : DFn := fnD 1 1 (mRet (mCallB oLen (mCons (mSl (mAttr noT CWP.fl "pages" (mVar 0)) (mPart (mCst (.int 1))) (mNoP)) (mNil))))
def b_Store_do : DFn := fnD 2 2 (mExp (mCallF b__wall [] (mCons (mCst (.int 3)) (mNil))))
def b_Store_do_k10 : DFn := fnD 2 3 (mSeq (mSet 2 (mBin oIx (mVar 1) (mCst (.int 0)))) (mIfS (mTest (mBin (oEqF (look2 [("Store", "make", b_Store_make), ("Store", "take", b_Store_take), ("Store", "renumber", b_Store_renumber), ("Store", "rename", b_Store_rename), ("Store", "point", b_Store_point), ("Store", "drop", b_Store_drop), ("Store", "copy", b_Store_copy), ("Store", "work", b_Store_work)]) CWP.nf CWP.ic) (mVar 2) (mCst (.str "make")))) (mExp (mCallM (look2 [("Store", "make", b_Store_make), ("Store", "take", b_Store_take), ("Store", "renumber", b_Store_renumber), ("Store", "rename", b_Store_rename), ("Store", "point", b_Store_point), ("Store", "drop", b_Store_drop), ("Store", "copy", b_Store_copy), ("Store", "work", b_Store_work)]) "make" (mVar 0) (mCons (mBin oIx (mVar 1) (mCst (.int 1))) (mNil)))) (mIfS (mTest (mBin (oEqF (look2 [("Store", "make", b_Store_make), ("Store", "take", b_Store_take), ("Store", "renumber", b_Store_renumber), ("Store", "rename", b_Store_rename), ("Store", "point", b_Store_point), ("Store", "drop", b_Store_drop), ("Store", "copy", b_Store_copy), ("Store", "work", b_Store_work)]) CWP.nf CWP.ic) (mVar 2) (mCst (.str "take")))) (mExp (mCallM (look2 [("Store", "make", b_Store_make), ("Store", "take", b_Store_take), ("Store", "renumber", b_Store_renumber), ("Store", "rename", b_Store_rename), ("Store", "point", b_Store_point), ("Store", "drop", b_Store_drop), ("Store", "copy", b_Store_copy), ("Store", "work", b_Store_work)]) "take" (mVar 0) (mCons (mBin oIx (mVar 1) (mCst (.int 1))) (mCons (mBin oIx (mVar 1) (mCst (.int 2))) (mNil))))) (mIfS (mTest (mBin (oEqF (look2 [("Store", "make", b_Store_make), ("Store", "take", b_Store_take), ("Store", "renumber", b_Store_renumber), ("Store", "rename", b_Store_rename), ("Store", "point", b_Store_point), ("Store", "drop", b_Store_drop), ("Store", "copy", b_Store_copy), ("Store", "work", b_Store_work)]) CWP.nf CWP.ic) (mVar 2) (mCst (.str "renumber")))) (mExp (mCallM (look2 [("Store", "make", b_Store_make), ("Store", "take", b_Store_take), ("Store", "renumber", b_Store_renumber), ("Store", "rename", b_Store_rename), ("Store", "point", b_Store_point), ("Store", "drop", b_Store_drop), ("Store", "copy", b_Store_copy), ("Store", "work", b_Store_work)]) "renumber" (mVar 0) (mCons (mBin oIx (mVar 1) (mCst (.int 1))) (mCons (mBin oIx (mVar 1) (mCst (.int 2))) (mCons (mBin oIx (mVar 1) (mCst (.int 3))) (mNil)))))) (mIfS (mTest (mBin (oEqF (look2 [("Store", "make", b_Store_make), ("Store", "take", b_Store_take), ("Store", "renumber", b_Store_renumber), ("Store", "rename", b_Store_rename), ("Store", "point", b_Store_point), ("Store", "drop", b_Store_drop), ("Store", "copy", b_Store_copy), ("Store", "work", b_Store_work)]) CWP.nf CWP.ic) (mVar 2) (mCst (.str "rename")))) (mExp (mCallM (look2 [("Store", "make", b_Store_make), ("Store", "take", b_Store_take), ("Store", "renumber", b_Store_renumber), ("Store", "rename", b_Store_rename), ("Store", "point", b_Store_point), ("Store", "drop", b_Store_drop), ("Store", "copy", b_Store_copy), ("Store", "work", b_Store_work)]) "rename" (mVar 0) (mCons (mBin oIx (mVar 1) (mCst (.int 1))) (mCons (mBin oIx (mVar 1) (mCst (.int 2))) (mNil))))) (mIfS (mTest (mBin (oEqF (look2 [("Store", "make", b_Store_make), ("Store", "take", b_Store_take), ("Store", "renumber", b_Store_renumber), ("Store", "rename", b_Store_rename), ("Store", "point", b_Store_point), ("Store", "drop", b_Store_drop), ("Store", "copy", b_Store_copy), ("Store", "work", b_Store_work)]) CWP.nf CWP.ic) (mVar 2) (mCst (.str "point")))) (mExp (mCallM (look2 [("Store", "make", b_Store_make), ("Store", "take", b_Store_take), ("Store", "renumber", b_Store_renumber), ("Store", "rename", b_Store_rename), ("Store", "point", b_Store_point), ("Store", "drop", b_Store_drop), ("Store", "copy", b_Store_copy), ("Store", "work", b_Store_work)]) "point" (mVar 0) (mCons (mBin oIx (mVar 1) (mCst (.int 1))) (mCons (mBin oIx (mVar 1) (mCst (.int 2))) (mCons (mBin oIx (mVar 1) (mCst (.int 3))) (mNil)))))) (mIfS (mTest (mBin (oEqF (look2 [("Store", "make", b_Store_make), ("Store", "take", b_Store_take), ("Store", "renumber", b_Store_renumber), ("Store", "rename", b_Store_rename), ("Store", "point", b_Store_point), ("Store", "drop", b_Store_drop), ("Store", "copy", b_Store_copy), ("Store", "work", b_Store_work)]) CWP.nf CWP.ic) (mVar 2) (mCst (.str "drop")))) (mExp (mCallM (look2 [("Store", "make", b_Store_make), ("Store", "take", b_Store_take), ("Store", "renumber", b_Store_renumber), ("Store", "rename", b_Store_rename), ("Store", "point", b_Store_point), ("Store", "drop", b_Store_drop), ("Store", "copy", b_Store_copy), ("Store", "work", b_Store_work)]) "drop" (mVar 0) (mCons (mBin oIx (mVar 1) (mCst (.int 1))) (mNil)))) (mIfS (mTest (mBin (oEqF (look2 [("Store", "make", b_Store_make), ("Store", "take", b_Store_take), ("Store", "renumber", b_Store_renumber), ("Store", "rename", b_Store_rename), ("Store", "point", b_Store_point), ("Store", "drop", b_Store_drop), ("Store", "copy", b_Store_copy), ("Store", "work", b_Store_work)]) CWP.nf CWP.ic) (mVar 2) (mCst (.str "copy")))) (mExp (mCallM (look2 [("Store", "make", b_Store_make), ("Store", "take", b_Store_take), ("Store", "renumber", b_Store_renumber), ("Store", "rename", b_Store_rename), ("Store", "point", b_Store_point), ("Store", "drop", b_Store_drop), ("Store", "copy", b_Store_copy), ("Store", "work", b_Store_work)]) "copy" (mVar 0) (mNil))) (mExp (mCallM (look2 [("Store", "make", b_Store_make), ("Store", "take", b_Store_take), ("Store", "renumber", b_Store_renumber), ("Store", "rename", b_Store_rename), ("Store", "point", b_Store_point), ("Store", "drop", b_Store_drop), ("Store", "copy", b_Store_copy), ("Store", "work", b_Store_work)]) "work" (mVar 0) (mNil)))))))))))
end KN
set_option maxHeartbeats 0
namespace KN
open PySem PySem.Spec PyProof.Rows L2
def b_write : DFn := fnD 1 4 (mSeq (mSet 1 (mLst (mCons (mLst (mCons (mCst (.str "cares")) (mStar (mAttr noT CWP.fl "some_cares" (mVar 0)) (mNil)))) (mCons (mLst (mCons (mCst (.str "rest")) (mCons (mCallB oStr (mCons (mAttr noT CWP.fl "nights" (mVar 0)) (mNil))) (mNil)))) (mCons (mLst (mCons (mCst (.str "works")) (mStar (mAttr noT CWP.fl "in_turn" (mVar 0)) (mNil)))) (mNil)))))) (mRet (mCallM noT "join" (mCst (.str "")) (mCons (mLc (mSrc (mVar 1)) [2, 3] (gSet 3) (mYes) (mBin oAdd (mCallM noT "join" (mCst (.str " ")) (mCons (mVar 3) (mNil))) (mCst (.str "\n")))) (mNil)))))
def b_is_right_k12 : DFn := fnD 2 5 (mSeq (mIfS (mTest (mBin (oEq true) (mBin oIx (mVar 1) (mCst (.int 0))) (mVar 0))) (mRet (mCst (.bl false))) (mNext)) (mSeq (mSet 2 (mSl (mVar 1) (mPart (mCst (.int 1))) (mNoP))) (mSeq (mIfS (mTest (mBin (oEqF noT CWP.nf CWP.ic) (mVar 0) (mCst (.str "cares")))) (mRet (mAndV (mCallB oAll (mCons (mLc (mSrc (mVar 2)) [3, 4] (gSet 4) (mYes) (mBin (oInA false) (mVar 4) (mCst (.tup [.str ("copy" : Str), .str ("rename" : Str), .str ("renumber" : Str), .str ("take" : Str)])))) (mNil))) (mBin (oEqF noT CWP.nf CWP.ic) (mVar 2) (mSortSet (mCons (mVar 2) (mNil)))))) (mNext)) (mSeq (mIfS (mTest (mBin (oEqF noT CWP.nf CWP.ic) (mVar 0) (mCst (.str "rest")))) (mRet (mAndV (mBin (oEqF noT CWP.nf CWP.ic) (mCallB oLen (mCons (mVar 2) (mNil))) (mCst (.int 1))) (mBin (oInA false) (mBin oIx (mVar 2) (mCst (.int 0))) (mCst (.tup [.str ("0" : Str), .str ("1" : Str), .str ("2" : Str)]))))) (mNext)) (mRet (mAndV (mChain (oCmp fun i j => decide (i ≤ j)) (oCmp fun i j => decide (i ≤ j)) (mCst (.int 1)) (mCallB oLen (mCons (mVar 2) (mNil))) (mCst (.int 3))) (mCallB oAll (mCons (mLc (mSrc (mVar 2)) [3, 4] (gSet 4) (mYes) (mBin (oInA false) (mVar 4) (mCst (.tup [.str ("free" : Str), .str ("sweep" : Str)])))) (mNil)))))))))
def b_read : DFn := fnD 1 8 (mSeq (mSet 1 (mCallM noT "split" (mVar 0) (mCons (mCst (.str "\n")) (mNil)))) (mSeq (mPar 2 3 (mCons (mSl (mVar 1) (mNoP) (mPart (mNeg (mCst (.int 1))))) (mCons (mBin oIx (mVar 1) (mNeg (mCst (.int 1)))) (mNil)))) (mSeq (mSet 4 (mLst (mNil))) (mSeq (mFor (mEnum (mCons (mVar 2) (mNil))) (gTupD 2 (gConsD (gSet 5) (gConsD (gSet 6) (gNilD)))) (mSeq (mSet 7 (mCallM noT "split" (mVar 6) (mCons (mCst (.str " ")) (mNil)))) (mSeq (mIfS (mOrT (mTest (mBin (oCmp fun i j => decide (j ≤ i)) (mVar 5) (mCallB oLen (mCons (mCst (.tup [.str ("cares" : Str), .str ("rest" : Str), .str ("works" : Str)])) (mNil))))) (mNotT (mTest (mCallF b_is_right_k12 [] (mCons (mBin oIx (mCst (.tup [.str ("cares" : Str), .str ("rest" : Str), .str ("works" : Str)])) (mVar 5)) (mCons (mVar 7) (mNil))))))) (mRaise "InvalidLine" ["line"] (mCons (mBin oAdd (mVar 5) (mCst (.int 1))) (mNil))) (mNext)) (mExp (mCallM noT "append" (mVar 4) (mCons (mSl (mVar 7) (mPart (mCst (.int 1))) (mNoP)) (mNil))))))) (mSeq (mIfS (mOrT (mTest (mBin (oEq true) (mVar 3) (mCst (.str "")))) (mTest (mBin (oCmp fun i j => decide (i < j)) (mCallB oLen (mCons (mVar 2) (mNil))) (mCallB oLen (mCons (mCst (.tup [.str ("cares" : Str), .str ("rest" : Str), .str ("works" : Str)])) (mNil)))))) (mRaise "InvalidLine" ["line"] (mCons (mBin oAdd (mCallB oLen (mCons (mVar 2) (mNil))) (mCst (.int 1))) (mNil))) (mNext)) (mRet (mMake "Rule" b_Rule___init__ [] (mCons (mCallB oTuple (mCons (mBin oIx (mVar 4) (mCst (.int 0))) (mNil))) (mCons (mCallB oInt (mCons (mBin oIx (mBin oIx (mVar 4) (mCst (.int 1))) (mCst (.int 0))) (mNil))) (mCons (mCallB oTuple (mCons (mBin oIx (mVar 4) (mCst (.int 2))) (mNil))) (mNil)))))))))))
def b__law_rows : DFn := fnD 1 1 (mRet (mLst (mCons (mCallM noT "join" (mCst (.str " ")) (mCons (mBin oAdd (mTup (mCons (mCst (.str "cares")) (mNil))) (mBin oIx (mVar 0) (mCst (.int 0)))) (mNil))) (mCons (mBin oAdd (mCst (.str "rest ")) (mCallB oStr (mCons (mBin oIx (mVar 0) (mCst (.int 1))) (mNil)))) (mCons (mCallM noT "join" (mCst (.str " ")) (mCons (mBin oAdd (mTup (mCons (mCst (.str "works")) (mNil))) (mBin oIx (mVar 0) (mCst (.int 2)))) (mNil))) (mNil))))))
def b__law_good_k12 : DFn := fnD 2 6 (mSeq (mSet 2 (mCallM noT "split" (mVar 1) (mCons (mCst (.str " ")) (mNil)))) (mSeq (mIfS (mOrT (mTest (mBin (oCmp fun i j => decide (j < i)) (mVar 0) (mCst (.int 2)))) (mTest (mBin (oEq true) (mBin oIx (mVar 2) (mCst (.int 0))) (mBin oIx (mLst (mCons (mCst (.str "cares")) (mCons (mCst (.str "rest")) (mCons (mCst (.str "works")) (mNil))))) (mVar 0))))) (mRet (mCst (.bl false))) (mNext)) (mSeq (mIfS (mTest (mBin (oEqF noT CWP.nf CWP.ic) (mVar 0) (mCst (.int 1)))) (mRet (mBin (oInA false) (mSl (mVar 2) (mPart (mCst (.int 1))) (mNoP)) (mLst (mCons (mLst (mCons (mCst (.str "0")) (mNil))) (mCons (mLst (mCons (mCst (.str "1")) (mNil))) (mCons (mLst (mCons (mCst (.str "2")) (mNil))) (mNil))))))) (mNext)) (mSeq (mSet 3 (mIf (mTest (mBin (oEqF noT CWP.nf CWP.ic) (mVar 0) (mCst (.int 0)))) (mLst (mCons (mCst (.str "copy")) (mCons (mCst (.str "rename")) (mCons (mCst (.str "renumber")) (mCons (mCst (.str "take")) (mNil)))))) (mLst (mCons (mCst (.str "free")) (mCons (mCst (.str "sweep")) (mNil)))))) (mSeq (mIfS (mNotT (mTest (mCallB oAll (mCons (mLc (mSrc (mSl (mVar 2) (mPart (mCst (.int 1))) (mNoP))) [4, 5] (gSet 5) (mYes) (mBin (oInA false) (mVar 5) (mVar 3))) (mNil))))) (mRet (mCst (.bl false))) (mNext)) (mRet (mIf (mTest (mBin (oEqF noT CWP.nf CWP.ic) (mVar 0) (mCst (.int 0)))) (mBin (oEqF noT CWP.nf CWP.ic) (mSl (mVar 2) (mPart (mCst (.int 1))) (mNoP)) (mSortSet (mCons (mSl (mVar 2) (mPart (mCst (.int 1))) (mNoP)) (mNil)))) (mChain (oCmp fun i j => decide (i < j)) (oCmp fun i j => decide (i < j)) (mCst (.int 1)) (mCallB oLen (mCons (mVar 2) (mNil))) (mCst (.int 5))))))))))
def b__law_due_line : DFn := fnD 1 3 (mSeq (mSet 1 (mCallM noT "split" (mVar 0) (mCons (mCst (.str "\n")) (mNil)))) (mSeq (mFor (mRng1 (mCons (mBin oSub (mCallB oLen (mCons (mVar 1) (mNil))) (mCst (.int 1))) (mNil))) (gSet 2) (mIfS (mNotT (mTest (mCallF b__law_good_k12 [] (mCons (mVar 2) (mCons (mBin oIx (mVar 1) (mVar 2)) (mNil)))))) (mRet (mBin oAdd (mVar 2) (mCst (.int 1)))) (mNext))) (mRet (mIf (mOrT (mTest (mBin (oEq true) (mBin oIx (mVar 1) (mNeg (mCst (.int 1)))) (mCst (.str "")))) (mTest (mBin (oCmp fun i j => decide (i < j)) (mCallB oLen (mCons (mVar 1) (mNil))) (mCst (.int 4))))) (mCallB oLen (mCons (mVar 1) (mNil))) (mCst .non)))))
def b__law_spoil_k12 : DFn := fnD 2 8 (mSeq (mSet 2 (mCallF b__law_below [] (mCons (mVar 0) (mCons (mCallB oLen (mCons (mVar 1) (mNil))) (mNil))))) (mSeq (mSet 3 (mCallF b__law_below [] (mCons (mVar 0) (mCons (mCst (.int 5)) (mNil))))) (mSeq (mIfS (mTest (mBin (oEqF noT CWP.nf CWP.ic) (mVar 3) (mCst (.int 0)))) (mRet (mIf (mTest (mBin (oCmp fun i j => decide (j < i)) (mCallB oLen (mCons (mVar 1) (mNil))) (mCst (.int 1)))) (mBin oAdd (mSl (mVar 1) (mNoP) (mPart (mVar 2))) (mSl (mVar 1) (mPart (mBin oAdd (mVar 2) (mCst (.int 1)))) (mNoP))) (mVar 1))) (mNext)) (mSeq (mIfS (mTest (mBin (oEqF noT CWP.nf CWP.ic) (mVar 3) (mCst (.int 1)))) (mRet (mBin oAdd (mBin oAdd (mSl (mVar 1) (mNoP) (mPart (mVar 2))) (mSl (mVar 1) (mPart (mVar 2)) (mPart (mBin oAdd (mVar 2) (mCst (.int 1)))))) (mSl (mVar 1) (mPart (mVar 2)) (mNoP)))) (mNext)) (mSeq (mIfS (mTest (mBin (oEqF noT CWP.nf CWP.ic) (mVar 3) (mCst (.int 2)))) (mRet (mBin oAdd (mSl (mVar 1) (mPart (mVar 2)) (mNoP)) (mSl (mVar 1) (mNoP) (mPart (mVar 2))))) (mNext)) (mSeq (mSet 4 (mCallM noT "split" (mBin oIx (mVar 1) (mVar 2)) (mCons (mCst (.str " ")) (mNil)))) (mSeq (mSet 5 (mCallF b__law_below [] (mCons (mVar 0) (mCons (mBin oAdd (mCallB oLen (mCons (mVar 4) (mNil))) (mCst (.int 1))) (mNil))))) (mSeq (mSet 6 (mCallF b__law_pick [] (mCons (mVar 0) (mCons (mLst (mCons (mCst (.str "free")) (mCons (mCst (.str "sweep")) (mCons (mCst (.str "take")) (mCons (mCst (.str "copy")) (mCons (mCst (.str "0")) (mCons (mCst (.str "2")) (mCons (mCst (.str "3")) (mCons (mCst (.str "")) (mCons (mCst (.str "02")) (mCons (mCst (.str "rest")) (mCons (mCst (.str "works")) (mCons (mCst (.str "x")) (mNil)))))))))))))) (mNil))))) (mSeq (mSet 7 (mBin oAdd (mBin oAdd (mSl (mVar 4) (mNoP) (mPart (mVar 5))) (mLst (mCons (mVar 6) (mNil)))) (mSl (mVar 4) (mPart (mBin oAdd (mVar 5) (mIf (mTest (mBin (oEqF noT CWP.nf CWP.ic) (mVar 3) (mCst (.int 4)))) (mCst (.int 1)) (mCst (.int 0))))) (mNoP)))) (mRet (mBin oAdd (mBin oAdd (mSl (mVar 1) (mNoP) (mPart (mVar 2))) (mLst (mCons (mCallM noT "join" (mCst (.str " ")) (mCons (mVar 7) (mNil))) (mNil)))) (mSl (mVar 1) (mPart (mBin oAdd (mVar 2) (mCst (.int 1)))) (mNoP)))))))))))))
def b__law_told_k12 : DFn := fnD 1 3 (mSeq (mSet 1 (mCst .non)) (mSeq (mTry (isxF CWP) (mExp (mCallF b_read [] (mCons (mVar 0) (mNil)))) [("InvalidLine", some 2, .one 1 (.fld "line"))]) (mRet (mVar 1))))
def b_law_k12 : DFn := fnD 1 9 (mSeq (mSet 1 (mCallF b__law_random [] (mCons (mVar 0) (mCons (mCst (.int 892)) (mNil))))) (mSeq (mSet 2 (mCallF b__law_draw [] (mCons (mVar 1) (mCons (mCst (.int 2)) (mCons (mCst (.int 3)) (mNil)))))) (mSeq (mSet 3 (mCallF b__law_rule [] (mCons (mVar 2) (mNil)))) (mSeq (mSet 4 (mCallF b__law_rows [] (mCons (mVar 2) (mNil)))) (mSeq (mSet 5 (mCallM (look2 [("Rule", "__eq__", b_Rule___eq__)]) "join" (mCst (.str "")) (mCons (mLc (mSrc (mVar 4)) [7, 8] (gSet 8) (mYes) (mBin oAdd (mVar 8) (mCst (.str "\n")))) (mNil)))) (mSeq (mIfS (mOrT (mTest (mBin (oEq true) (mCallF b_write [] (mCons (mVar 3) (mNil))) (mVar 5))) (mNotT (mTest (mBin (oEqF (look2 [("Rule", "__eq__", b_Rule___eq__)]) CWP.nf CWP.ic) (mCallF b_read [] (mCons (mVar 5) (mNil))) (mVar 3))))) (mRet (mCst (.bl false))) (mNext)) (mSeq (mFor (mRng1 (mCons (mBin oAdd (mCst (.int 1)) (mCallF b__law_below [] (mCons (mVar 1) (mCons (mCst (.int 2)) (mNil))))) (mNil))) (gSet 6) (mSet 4 (mCallF b__law_spoil_k12 [] (mCons (mVar 1) (mCons (mVar 4) (mNil)))))) (mSeq (mSet 5 (mCallM (look2 [("Rule", "__eq__", b_Rule___eq__)]) "join" (mCst (.str "")) (mCons (mLc (mSrc (mVar 4)) [7, 8] (gSet 8) (mYes) (mBin oAdd (mVar 8) (mCst (.str "\n")))) (mNil)))) (mSeq (mIfS (mTest (mBin (oEqF (look2 [("Rule", "__eq__", b_Rule___eq__)]) CWP.nf CWP.ic) (mCallF b__law_below [] (mCons (mVar 1) (mCons (mCst (.int 4)) (mNil)))) (mCst (.int 0)))) (mSet 5 (mSl (mVar 5) (mNoP) (mPart (mNeg (mCst (.int 1)))))) (mNext)) (mSeq (mIfS (mTest (mBin (oEqF (look2 [("Rule", "__eq__", b_Rule___eq__)]) CWP.nf CWP.ic) (mCallF b__law_below [] (mCons (mVar 1) (mCons (mCst (.int 6)) (mNil)))) (mCst (.int 0)))) (mSet 5 (mBin oAdd (mVar 5) (mCallF b__law_pick [] (mCons (mVar 1) (mCons (mLst (mCons (mCst (.str " ")) (mCons (mCst (.str "\n")) (mCons (mCst (.str "rest 0")) (mNil))))) (mNil)))))) (mNext)) (mRet (mBin (oEqF (look2 [("Rule", "__eq__", b_Rule___eq__)]) CWP.nf CWP.ic) (mCallF b__law_told_k12 [] (mCons (mVar 5) (mNil))) (mCallF b__law_due_line [] (mCons (mVar 5) (mNil)))))))))))))))
end KN
set_option maxHeartbeats 0
namespace KN
open PySem PySem.Spec PyProof.Rows L2
namespace k12
def P : Program := PySem.Challenge.pw_kindnumber_k12_whole_texts
def top (i : Nat) : Stmt := P.main.body.getD i (.Pass ⟨0, 0, 0, 0⟩)
def d__wall : DefQ := ⟨.glo "_wall", "_wall", "_wall", sA (top 0), sB (top 0), sS (top 0), []⟩
def d_is_integer : DefQ := ⟨.glo "is_integer", "is_integer", "is_integer", sA (top 10), sB (top 10), sS (top 10), []⟩
def d_is_between : DefQ := ⟨.glo "is_between", "is_between", "is_between", sA (top 11), sB (top 11), sS (top 11), []⟩
def d_are_words : DefQ := ⟨.glo "are_words", "are_words", "are_words", sA (top 12), sB (top 12), sS (top 12), []⟩
def d_look_at_rule : DefQ := ⟨.glo "look_at_rule", "look_at_rule", "look_at_rule", sA (top 13), sB (top 13), sS (top 13), []⟩
def d_write : DefQ := ⟨.glo "write", "write", "write", sA (top 19), sB (top 19), sS (top 19), []⟩
def d_is_right : DefQ := ⟨.glo "is_right", "is_right", "is_right", sA (top 20), sB (top 20), sS (top 20), []⟩
def d_Rule___init__ : DefQ := ⟨.meth "Rule" "__init__", "__init__", "Rule.__init__", sA (cb (top 14) 0), sB (cb (top 14) 0), sS (cb (top 14) 0), []⟩
def d_read : DefQ := ⟨.glo "read", "read", "read", sA (top 21), sB (top 21), sS (top 21), []⟩
def d__law_random : DefQ := ⟨.glo "_law_random", "_law_random", "_law_random", sA (top 23), sB (top 23), sS (top 23), []⟩
def d__law_below : DefQ := ⟨.glo "_law_below", "_law_below", "_law_below", sA (top 24), sB (top 24), sS (top 24), []⟩
def d__law_pick : DefQ := ⟨.glo "_law_pick", "_law_pick", "_law_pick", sA (top 25), sB (top 25), sS (top 25), []⟩
def d__law_draw : DefQ := ⟨.glo "_law_draw", "_law_draw", "_law_draw", sA (top 26), sB (top 26), sS (top 26), []⟩
def d__law_rule : DefQ := ⟨.glo "_law_rule", "_law_rule", "_law_rule", sA (top 27), sB (top 27), sS (top 27), []⟩
def d__law_rows : DefQ := ⟨.glo "_law_rows", "_law_rows", "_law_rows", sA (top 28), sB (top 28), sS (top 28), []⟩
def d__law_good : DefQ := ⟨.glo "_law_good", "_law_good", "_law_good", sA (top 29), sB (top 29), sS (top 29), []⟩
def d__law_due_line : DefQ := ⟨.glo "_law_due_line", "_law_due_line", "_law_due_line", sA (top 30), sB (top 30), sS (top 30), []⟩
def d__law_spoil : DefQ := ⟨.glo "_law_spoil", "_law_spoil", "_law_spoil", sA (top 31), sB (top 31), sS (top 31), []⟩
def d__law_told : DefQ := ⟨.glo "_law_told", "_law_told", "_law_told", sA (top 32), sB (top 32), sS (top 32), []⟩
def d_Rule___eq__ : DefQ := ⟨.meth "Rule" "__eq__", "__eq__", "Rule.__eq__", sA (cb (top 14) 4), sB (cb (top 14) 4), sS (cb (top 14) 4), []⟩
def d_law : DefQ := ⟨.glo "law", "law", "law", sA (top 33), sB (top 33), sS (top 33), []⟩
def d_Rule_changed : DefQ := ⟨.meth "Rule" "changed", "changed", "Rule.changed", sA (cb (top 14) 5), sB (cb (top 14) 5), sS (cb (top 14) 5), []⟩
def d_Rule_cares : DefQ := ⟨.prop "Rule" "cares", "cares", "Rule.cares", sA (cb (top 14) 1), sB (cb (top 14) 1), sS (cb (top 14) 1), []⟩
def d_Rule_rest : DefQ := ⟨.prop "Rule" "rest", "rest", "Rule.rest", sA (cb (top 14) 2), sB (cb (top 14) 2), sS (cb (top 14) 2), []⟩
def d_Rule_works : DefQ := ⟨.prop "Rule" "works", "works", "Rule.works", sA (cb (top 14) 3), sB (cb (top 14) 3), sS (cb (top 14) 3), []⟩
def qs : List DefQ := [d__wall, d_is_integer, d_is_between, d_are_words, d_look_at_rule, d_write, d_is_right, d_Rule___init__, d_read, d__law_random, d__law_below, d__law_pick, d__law_draw, d__law_rule, d__law_rows, d__law_good, d__law_due_line, d__law_spoil, d__law_told, d_Rule___eq__, d_law, d_Rule_changed, d_Rule_cares, d_Rule_rest, d_Rule_works]
def x_InvalidRule : ExD := ⟨"InvalidRule", ["part"], ⟨.meth "InvalidRule" "__init__", "__init__", "InvalidRule.__init__", sA (cb (top 3) 0), sB (cb (top 3) 0), sS (cb (top 3) 0), []⟩⟩
def x_InvalidLine : ExD := ⟨"InvalidLine", ["line"], ⟨.meth "InvalidLine" "__init__", "__init__", "InvalidLine.__init__", sA (cb (top 4) 0), sB (cb (top 4) 0), sS (cb (top 4) 0), []⟩⟩
def xs : List ExD := [x_InvalidRule, x_InvalidLine]
def lb : LB := ⟨[("CARES", .tup [.str ("copy" : Str), .str ("rename" : Str), .str ("renumber" : Str), .str ("take" : Str)]), ("HEADS", .tup [.str ("cares" : Str), .str ("rest" : Str), .str ("works" : Str)]), ("MOST_REST", .int 2), ("MOST_WORKS_rules", .int 3), ("MOST_WORKS_texts", .int 3), ("RESTS", .tup [.str ("0" : Str), .str ("1" : Str), .str ("2" : Str)]), ("WORKS", .tup [.str ("free" : Str), .str ("sweep" : Str)])], ["Rule"], ["abs", "all", "bool", "enumerate", "int", "isinstance", "len", "list", "range", "set", "sorted", "str", "super", "tuple"], [("PointError", []), ("InvalidRule", ["part"]), ("InvalidLine", ["line"])]⟩
abbrev FX (K : PySem.W.Frag) (mg : Str → Option Value) : Prop := Fx "/claim/cut.py" CWP lb qs xs K mg
section
variable {K : PySem.W.Frag} {mg : Str → Option Value} {w : World} {base : Heap}
theorem e_InvalidRule (F : FX K mg) : ∃ C, mg ("InvalidRule" : Str) = some (.ref C) ∧ ExS P w K mg base 2 C ["part"] :=
  F.ex_ok (x := x_InvalidRule) (ps := ["self", "part"]) (List.mem_of_getElem? (i := 0) rfl) rfl rfl rfl (by decide +kernel) (eiOk_ok (by kernel_rfl)) (by rfl) (fun _ _ _ _ => rfl) rfl rfl rfl (fun _ _ _ _ _ _ _ us hl => match us, hl with | [_, _], _ => rfl) (rest1 rfl rfl rfl rfl ⟨rfl, rfl⟩ ⟨rfl, rfl⟩)
theorem e_InvalidLine (F : FX K mg) : ∃ C, mg ("InvalidLine" : Str) = some (.ref C) ∧ ExS P w K mg base 2 C ["line"] :=
  F.ex_ok (x := x_InvalidLine) (ps := ["self", "line"]) (List.mem_of_getElem? (i := 1) rfl) rfl rfl rfl (by decide +kernel) (eiOk_ok (by kernel_rfl)) (by rfl) (fun _ _ _ _ => rfl) rfl rfl rfl (fun _ _ _ _ _ _ _ us hl => match us, hl with | [_, _], _ => rfl) (rest1 rfl rfl rfl rfl ⟨rfl, rfl⟩ ⟨rfl, rfl⟩)
theorem exok (F : FX K mg) : ExOk P w K mg base lb.exf :=
  .bare (F.bare (by decide +kernel)) <| .cons (e_InvalidRule F) <| .cons (e_InvalidLine F) <| .nil
theorem ok__wall (F : FX K mg) : OkFn P w K mg base 4 "_wall" [] b__wall :=
  F.okFn (exok F) (E := ⟨[], [], [], []⟩) (top := 2) ⟨lnil, lnil, lnil, lnil⟩ (by decide) (d := d__wall) (List.mem_of_getElem? (i := 0) rfl) rfl (N := ["k"]) (ps := ["k"]) (lim := 100000) (fu := 60) (scOk_ok (by kernel_rfl)) 0 rfl (by kernel_rfl) (.inl ⟨rfl, fun _ _ _ _ _ _ us hl => match us, hl with | [_], _ => rfl⟩) rfl
theorem ok_is_integer (F : FX K mg) : OkFn P w K mg base 4 "is_integer" [] b_is_integer :=
  F.okFn (exok F) (E := ⟨[], [], [], []⟩) (top := 2) ⟨lnil, lnil, lnil, lnil⟩ (by decide) (d := d_is_integer) (List.mem_of_getElem? (i := 1) rfl) rfl (N := ["value"]) (ps := ["value"]) (lim := 100000) (fu := 60) (scOk_ok (by kernel_rfl)) 0 rfl (by kernel_rfl) (.inl ⟨rfl, fun _ _ _ _ _ _ us hl => match us, hl with | [_], _ => rfl⟩) rfl
theorem ok_is_between (F : FX K mg) : OkFn P w K mg base 6 "is_between" [] b_is_between :=
  F.okFn (exok F) (E := ⟨[("is_integer", 1, ([], b_is_integer))], [], [], []⟩) (top := 4) ⟨lcons ((ok_is_integer F).mono (by decide)) (lnil), lnil, lnil, lnil⟩ (by decide) (d := d_is_between) (List.mem_of_getElem? (i := 2) rfl) rfl (N := ["value", "least", "most"]) (ps := ["value", "least", "most"]) (lim := 100000) (fu := 60) (scOk_ok (by kernel_rfl)) 0 rfl (by kernel_rfl) (.inl ⟨rfl, fun _ _ _ _ _ _ us hl => match us, hl with | [_, _, _], _ => rfl⟩) rfl
theorem ok_are_words (F : FX K mg) : OkFn P w K mg base 4 "are_words" [] b_are_words :=
  F.okFn (exok F) (E := ⟨[], [], [], []⟩) (top := 2) ⟨lnil, lnil, lnil, lnil⟩ (by decide) (d := d_are_words) (List.mem_of_getElem? (i := 3) rfl) rfl (N := ["value", "known", ".0", "word"]) (ps := ["value", "known"]) (lim := 100000) (fu := 60) (scOk_ok (by kernel_rfl)) 0 rfl (by kernel_rfl) (.inl ⟨rfl, fun _ _ _ _ _ _ us hl => match us, hl with | [_, _], _ => rfl⟩) rfl
theorem ok_look_at_rule (F : FX K mg) : OkFn P w K mg base 8 "look_at_rule" [] b_look_at_rule :=
  F.okFn (exok F) (E := ⟨[("are_words", 2, ([], b_are_words)), ("is_between", 3, ([], b_is_between))], [], [], []⟩) (top := 6) ⟨lcons ((ok_are_words F).mono (by decide)) (lcons ((ok_is_between F).mono (by decide)) (lnil)), lnil, lnil, lnil⟩ (by decide) (d := d_look_at_rule) (List.mem_of_getElem? (i := 4) rfl) rfl (N := ["cares", "rest", "works"]) (ps := ["cares", "rest", "works"]) (lim := 100000) (fu := 60) (scOk_ok (by kernel_rfl)) 0 rfl (by kernel_rfl) (.inl ⟨rfl, fun _ _ _ _ _ _ us hl => match us, hl with | [_, _, _], _ => rfl⟩) rfl
theorem ok_write (F : FX K mg) : OkFn P w K mg base 4 "write" [] b_write :=
  F.okFn (exok F) (E := ⟨[], [], [], []⟩) (top := 2) ⟨lnil, lnil, lnil, lnil⟩ (by decide) (d := d_write) (List.mem_of_getElem? (i := 5) rfl) rfl (N := ["rule", "lines", ".0", "words"]) (ps := ["rule"]) (lim := 100000) (fu := 60) (scOk_ok (by kernel_rfl)) 0 rfl (by kernel_rfl) (.inl ⟨rfl, fun _ _ _ _ _ _ us hl => match us, hl with | [_], _ => rfl⟩) rfl
theorem ok_is_right (F : FX K mg) : OkFn P w K mg base 4 "is_right" [] b_is_right_k12 :=
  F.okFn (exok F) (E := ⟨[], [], [], []⟩) (top := 2) ⟨lnil, lnil, lnil, lnil⟩ (by decide) (d := d_is_right) (List.mem_of_getElem? (i := 6) rfl) rfl (N := ["head", "words", "rest", ".0", "word"]) (ps := ["head", "words"]) (lim := 100000) (fu := 60) (scOk_ok (by kernel_rfl)) 0 rfl (by kernel_rfl) (.inl ⟨rfl, fun _ _ _ _ _ _ us hl => match us, hl with | [_, _], _ => rfl⟩) rfl
theorem ok_Rule___init__ (F : FX K mg) : OkMk P w K mg base 10 "Rule" [] b_Rule___init__ :=
  F.okMk (exok F) (E := ⟨[("look_at_rule", 3, ([], b_look_at_rule))], [], [], []⟩) (top := 8) ⟨lcons ((ok_look_at_rule F).mono (by decide)) (lnil), lnil, lnil, lnil⟩ (by decide) (d := d_Rule___init__) (List.mem_of_getElem? (i := 7) rfl) rfl (N := ["self", "cares", "rest", "works"]) (ps := ["self", "cares", "rest", "works"]) (lim := 100000) (fu := 60) (scOk_ok (by kernel_rfl)) 0 rfl (by kernel_rfl) (.inl ⟨rfl, fun _ _ _ _ _ _ us hl => match us, hl with | [_, _, _, _], _ => rfl⟩) rfl
theorem ok_read (F : FX K mg) : OkFn P w K mg base 12 "read" [] b_read :=
  F.okFn (exok F) (E := ⟨[("is_right", 2, ([], b_is_right_k12))], [("Rule", 3, ([], b_Rule___init__))], [], []⟩) (top := 10) ⟨lcons ((ok_is_right F).mono (by decide)) (lnil), lcons ((ok_Rule___init__ F).mono (by decide)) (lnil), lnil, lnil⟩ (by decide) (d := d_read) (List.mem_of_getElem? (i := 8) rfl) rfl (N := ["text", "parts", "rows", "left", "told", "index", "row", "words"]) (ps := ["text"]) (lim := 100000) (fu := 60) (scOk_ok (by kernel_rfl)) 0 rfl (by kernel_rfl) (.inl ⟨rfl, fun _ _ _ _ _ _ us hl => match us, hl with | [_], _ => rfl⟩) rfl
theorem ok__law_random (F : FX K mg) : OkFn P w K mg base 4 "_law_random" [] b__law_random :=
  F.okFn (exok F) (E := ⟨[], [], [], []⟩) (top := 2) ⟨lnil, lnil, lnil, lnil⟩ (by decide) (d := d__law_random) (List.mem_of_getElem? (i := 9) rfl) rfl (N := ["_law_script", "_law_salt", "_law_seed", "_law_cell", ".0"]) (ps := ["_law_script", "_law_salt"]) (lim := 100000) (fu := 60) (scOk_ok (by kernel_rfl)) 0 rfl (by kernel_rfl) (.inl ⟨rfl, fun _ _ _ _ _ _ us hl => match us, hl with | [_, _], _ => rfl⟩) rfl
theorem ok__law_below (F : FX K mg) : OkFn P w K mg base 4 "_law_below" [] b__law_below :=
  F.okFn (exok F) (E := ⟨[], [], [], []⟩) (top := 2) ⟨lnil, lnil, lnil, lnil⟩ (by decide) (d := d__law_below) (List.mem_of_getElem? (i := 10) rfl) rfl (N := ["_law_d", "_law_size", "_law_result"]) (ps := ["_law_d", "_law_size"]) (lim := 100000) (fu := 60) (scOk_ok (by kernel_rfl)) 0 rfl (by kernel_rfl) (.inl ⟨rfl, fun _ _ _ _ _ _ us hl => match us, hl with | [_, _], _ => rfl⟩) rfl
theorem ok__law_pick (F : FX K mg) : OkFn P w K mg base 6 "_law_pick" [] b__law_pick :=
  F.okFn (exok F) (E := ⟨[("_law_below", 2, ([], b__law_below))], [], [], []⟩) (top := 4) ⟨lcons ((ok__law_below F).mono (by decide)) (lnil), lnil, lnil, lnil⟩ (by decide) (d := d__law_pick) (List.mem_of_getElem? (i := 11) rfl) rfl (N := ["_law_d", "_law_items"]) (ps := ["_law_d", "_law_items"]) (lim := 100000) (fu := 60) (scOk_ok (by kernel_rfl)) 0 rfl (by kernel_rfl) (.inl ⟨rfl, fun _ _ _ _ _ _ us hl => match us, hl with | [_, _], _ => rfl⟩) rfl
theorem ok__law_draw (F : FX K mg) : OkFn P w K mg base 8 "_law_draw" [] b__law_draw :=
  F.okFn (exok F) (E := ⟨[("_law_below", 2, ([], b__law_below)), ("_law_pick", 2, ([], b__law_pick))], [], [], []⟩) (top := 6) ⟨lcons ((ok__law_below F).mono (by decide)) (lcons ((ok__law_pick F).mono (by decide)) (lnil)), lnil, lnil, lnil⟩ (by decide) (d := d__law_draw) (List.mem_of_getElem? (i := 12) rfl) rfl (N := ["_law_d", "_law_most_rest", "_law_most_works", "_law_cares", "_law_works", ".0", "_law_word", "_law_k"]) (ps := ["_law_d", "_law_most_rest", "_law_most_works"]) (lim := 100000) (fu := 60) (scOk_ok (by kernel_rfl)) 0 rfl (by kernel_rfl) (.inl ⟨rfl, fun _ _ _ _ _ _ us hl => match us, hl with | [_, _, _], _ => rfl⟩) rfl
theorem ok__law_rule (F : FX K mg) : OkFn P w K mg base 12 "_law_rule" [] b__law_rule :=
  F.okFn (exok F) (E := ⟨[], [("Rule", 3, ([], b_Rule___init__))], [], []⟩) (top := 10) ⟨lnil, lcons ((ok_Rule___init__ F).mono (by decide)) (lnil), lnil, lnil⟩ (by decide) (d := d__law_rule) (List.mem_of_getElem? (i := 13) rfl) rfl (N := ["_law_t"]) (ps := ["_law_t"]) (lim := 100000) (fu := 60) (scOk_ok (by kernel_rfl)) 0 rfl (by kernel_rfl) (.inl ⟨rfl, fun _ _ _ _ _ _ us hl => match us, hl with | [_], _ => rfl⟩) rfl
theorem ok__law_rows (F : FX K mg) : OkFn P w K mg base 4 "_law_rows" [] b__law_rows :=
  F.okFn (exok F) (E := ⟨[], [], [], []⟩) (top := 2) ⟨lnil, lnil, lnil, lnil⟩ (by decide) (d := d__law_rows) (List.mem_of_getElem? (i := 14) rfl) rfl (N := ["_law_t"]) (ps := ["_law_t"]) (lim := 100000) (fu := 60) (scOk_ok (by kernel_rfl)) 0 rfl (by kernel_rfl) (.inl ⟨rfl, fun _ _ _ _ _ _ us hl => match us, hl with | [_], _ => rfl⟩) rfl
theorem ok__law_good (F : FX K mg) : OkFn P w K mg base 4 "_law_good" [] b__law_good_k12 :=
  F.okFn (exok F) (E := ⟨[], [], [], []⟩) (top := 2) ⟨lnil, lnil, lnil, lnil⟩ (by decide) (d := d__law_good) (List.mem_of_getElem? (i := 15) rfl) rfl (N := ["_law_k", "_law_row", "_law_words", "_law_known", ".0", "_law_word"]) (ps := ["_law_k", "_law_row"]) (lim := 100000) (fu := 60) (scOk_ok (by kernel_rfl)) 0 rfl (by kernel_rfl) (.inl ⟨rfl, fun _ _ _ _ _ _ us hl => match us, hl with | [_, _], _ => rfl⟩) rfl
theorem ok__law_due_line (F : FX K mg) : OkFn P w K mg base 6 "_law_due_line" [] b__law_due_line :=
  F.okFn (exok F) (E := ⟨[("_law_good", 2, ([], b__law_good_k12))], [], [], []⟩) (top := 4) ⟨lcons ((ok__law_good F).mono (by decide)) (lnil), lnil, lnil, lnil⟩ (by decide) (d := d__law_due_line) (List.mem_of_getElem? (i := 16) rfl) rfl (N := ["_law_text", "_law_rows_here", "_law_k"]) (ps := ["_law_text"]) (lim := 100000) (fu := 60) (scOk_ok (by kernel_rfl)) 0 rfl (by kernel_rfl) (.inl ⟨rfl, fun _ _ _ _ _ _ us hl => match us, hl with | [_], _ => rfl⟩) rfl
theorem ok__law_spoil (F : FX K mg) : OkFn P w K mg base 8 "_law_spoil" [] b__law_spoil_k12 :=
  F.okFn (exok F) (E := ⟨[("_law_below", 2, ([], b__law_below)), ("_law_pick", 2, ([], b__law_pick))], [], [], []⟩) (top := 6) ⟨lcons ((ok__law_below F).mono (by decide)) (lcons ((ok__law_pick F).mono (by decide)) (lnil)), lnil, lnil, lnil⟩ (by decide) (d := d__law_spoil) (List.mem_of_getElem? (i := 17) rfl) rfl (N := ["_law_d", "_law_rows_here", "_law_k", "_law_pick_here", "_law_words", "_law_at", "_law_more", "_law_new"]) (ps := ["_law_d", "_law_rows_here"]) (lim := 100000) (fu := 60) (scOk_ok (by kernel_rfl)) 0 rfl (by kernel_rfl) (.inl ⟨rfl, fun _ _ _ _ _ _ us hl => match us, hl with | [_, _], _ => rfl⟩) rfl
theorem ok__law_told (F : FX K mg) : OkFn P w K mg base 14 "_law_told" [] b__law_told_k12 :=
  F.okFn (exok F) (E := ⟨[("read", 1, ([], b_read))], [], [], []⟩) (top := 12) ⟨lcons ((ok_read F).mono (by decide)) (lnil), lnil, lnil, lnil⟩ (by decide) (d := d__law_told) (List.mem_of_getElem? (i := 18) rfl) rfl (N := ["_law_text", "_law_told_here", "e"]) (ps := ["_law_text"]) (lim := 100000) (fu := 60) (scOk_ok (by kernel_rfl)) 0 rfl (by kernel_rfl) (.inl ⟨rfl, fun _ _ _ _ _ _ us hl => match us, hl with | [_], _ => rfl⟩) rfl
theorem ok_Rule___eq__ (F : FX K mg) : OkMt P w K mg base 4 "Rule" "__eq__" b_Rule___eq__ :=
  F.okMt (exok F) (E := ⟨[], [], [], []⟩) (top := 2) ⟨lnil, lnil, lnil, lnil⟩ (by decide) (d := d_Rule___eq__) (List.mem_of_getElem? (i := 19) rfl) rfl (by decide +kernel) (N := ["self", "other"]) (ps := ["self", "other"]) (lim := 100000) (fu := 60) (scOk_ok (by kernel_rfl)) rfl (by kernel_rfl) (.inl ⟨rfl, fun _ _ _ _ _ _ us hl => match us, hl with | [_, _], _ => rfl⟩) rfl
theorem run_law (F : FX K mg) {dvs : List V} {fd : FuncData} (Q : FunQ K d_law dvs fd) : FnOk P w K mg base (L2.CX P w) 15 (d_law.at_.ad K) fd ["_law_script"] (spOf P w K mg 1 b_law_k12) :=
  F.run (exok F) (E := ⟨[("_law_random", 2, ([], b__law_random)), ("_law_draw", 3, ([], b__law_draw)), ("_law_rule", 1, ([], b__law_rule)), ("_law_rows", 1, ([], b__law_rows)), ("write", 1, ([], b_write)), ("read", 1, ([], b_read)), ("_law_below", 2, ([], b__law_below)), ("_law_spoil", 2, ([], b__law_spoil_k12)), ("_law_pick", 2, ([], b__law_pick)), ("_law_told", 1, ([], b__law_told_k12)), ("_law_due_line", 1, ([], b__law_due_line))], [], [("Rule", "__eq__", b_Rule___eq__)], []⟩) (top := 14) ⟨lcons ((ok__law_random F).mono (by decide)) (lcons ((ok__law_draw F).mono (by decide)) (lcons ((ok__law_rule F).mono (by decide)) (lcons ((ok__law_rows F).mono (by decide)) (lcons ((ok_write F).mono (by decide)) (lcons ((ok_read F).mono (by decide)) (lcons ((ok__law_below F).mono (by decide)) (lcons ((ok__law_spoil F).mono (by decide)) (lcons ((ok__law_pick F).mono (by decide)) (lcons ((ok__law_told F).mono (by decide)) (lcons ((ok__law_due_line F).mono (by decide)) (lnil))))))))))), lnil, lcons ((ok_Rule___eq__ F).mono (by decide)) (lnil), lnil⟩ (by decide) (d := d_law) (N := ["_law_script", "_law_d", "_law_t", "_law_rule_here", "_law_rows_here", "_law_text", "_law_k", ".0", "_law_row"]) (ps := ["_law_script"]) (lim := 100000) (fu := 60) (scOk_ok (by kernel_rfl)) rfl (by kernel_rfl) Q
theorem ok_Rule_changed (F : FX K mg) : OkMt P w K mg base 6 "Rule" "changed" b_Rule_changed :=
  F.okMt (exok F) (E := ⟨[("_wall", 1, ([], b__wall))], [], [], []⟩) (top := 4) ⟨lcons ((ok__wall F).mono (by decide)) (lnil), lnil, lnil, lnil⟩ (by decide) (d := d_Rule_changed) (List.mem_of_getElem? (i := 21) rfl) rfl (by decide +kernel) (N := ["self", "part", "value"]) (ps := ["self", "part", "value"]) (lim := 100000) (fu := 60) (scOk_ok (by kernel_rfl)) rfl (by kernel_rfl) (.inl ⟨rfl, fun _ _ _ _ _ _ us hl => match us, hl with | [_, _, _], _ => rfl⟩) rfl
theorem ok_Rule_cares (F : FX K mg) : OkPr P w K mg base 4 "Rule" "cares" b_Rule_cares :=
  F.okPr (exok F) (E := ⟨[], [], [], []⟩) (top := 2) ⟨lnil, lnil, lnil, lnil⟩ (by decide) (d := d_Rule_cares) (List.mem_of_getElem? (i := 22) rfl) rfl (N := ["self"]) (ps := ["self"]) (lim := 100000) (fu := 60) (scOk_ok (by kernel_rfl)) rfl (by kernel_rfl) (.inl ⟨rfl, fun _ _ _ _ _ _ us hl => match us, hl with | [_], _ => rfl⟩) rfl
theorem ok_Rule_rest (F : FX K mg) : OkPr P w K mg base 4 "Rule" "rest" b_Rule_rest :=
  F.okPr (exok F) (E := ⟨[], [], [], []⟩) (top := 2) ⟨lnil, lnil, lnil, lnil⟩ (by decide) (d := d_Rule_rest) (List.mem_of_getElem? (i := 23) rfl) rfl (N := ["self"]) (ps := ["self"]) (lim := 100000) (fu := 60) (scOk_ok (by kernel_rfl)) rfl (by kernel_rfl) (.inl ⟨rfl, fun _ _ _ _ _ _ us hl => match us, hl with | [_], _ => rfl⟩) rfl
theorem ok_Rule_works (F : FX K mg) : OkPr P w K mg base 4 "Rule" "works" b_Rule_works :=
  F.okPr (exok F) (E := ⟨[], [], [], []⟩) (top := 2) ⟨lnil, lnil, lnil, lnil⟩ (by decide) (d := d_Rule_works) (List.mem_of_getElem? (i := 24) rfl) rfl (N := ["self"]) (ps := ["self"]) (lim := 100000) (fu := 60) (scOk_ok (by kernel_rfl)) rfl (by kernel_rfl) (.inl ⟨rfl, fun _ _ _ _ _ _ us hl => match us, hl with | [_], _ => rfl⟩) rfl
end
def loose : List PySem.Str := (["_wall", "PointError", "InvalidRule", "InvalidLine", "CARES", "WORKS", "MOST_REST", "MOST_WORKS_rules", "is_integer", "is_between", "are_words", "look_at_rule", "Rule", "HEADS", "RESTS", "MOST_WORKS_texts", "write", "is_right", "read", "_law_random", "_law_below", "_law_pick", "_law_draw", "_law_rule", "_law_rows", "_law_good", "_law_due_line", "_law_spoil", "_law_told"] : List PySem.Str)
abbrev R : PySem.W.OpenRow := PySem.W.OpenLaw.row PySem.Challenge.rw_kindnumber_k12_whole_texts
abbrev hk : PySem.W.Hook := hookQ 6 "/claim/cut.py" CWP lb qs xs
def ob (s : PySem.W.SharedT) : AlQ := obsQG 6 "/claim/cut.py" CWP lb qs xs (HandSHeadRun.getT s)
theorem ob_eq (s : PySem.W.SharedT) : ob s = hk.obs s.abs := obsQG_eq (HandSHeadRun.getT_eq s)
theorem run (w : World) : HandSHeadRun.RunEq R (PySem.W.view R.prog [33]) hk ob 3000 loose w := by
  intro os
  kernel_rfl
theorem holds (hg : ∀ ns : List Int, ns.length ≤ 63 → ∃ S, b_law_k12 [.scr ns] [] = .ok (.bl true) S) : PySem.Challenge.rw_kindnumber_k12_whole_texts.Holds := by
  w_on; o_law
  refine HandSHeadRun.head_any (r := PySem.W.OpenLaw.row PySem.Challenge.rw_kindnumber_k12_whole_texts) (q := PySem.W.view (PySem.W.OpenLaw.row PySem.Challenge.rw_kindnumber_k12_whole_texts).prog [33]) (H := hk) (ob := ob) (M := 3000) (loose := loose) (d := HandSHeadRun.topDef (PySem.W.OpenLaw.row PySem.Challenge.rw_kindnumber_k12_whole_texts).prog 33) (kwd := []) ob_eq
    (by kernel_rfl) (fun s => by kernel_rfl) run (by kernel_rfl) (by kernel_rfl) (by kernel_rfl) (by rfl) (by first | assumption | decide +kernel) (by decide +kernel) ⟨rfl, rfl, rfl, rfl, rfl, by decide +kernel⟩ ?hw ?hc
  case hw => w_witness2
  case hc =>
    exact law_entry (l := PySem.Challenge.rw_kindnumber_k12_whole_texts) (k := 15) (x := "_law_script") (dl := d_law) rfl (by kernel_rfl) ⟨rfl, by decide, by decide⟩ (List.mem_of_getElem? (i := 20) rfl) (by kernel_rfl) rfl
      (fun _ _ _ _ _ _ us hl => match us, hl with | [_], _ => rfl) (fun w mg K base F dvs fd Q => run_law F Q) hg
end k12
end KN
set_option maxHeartbeats 200000
namespace KN
open PySem PySem.Spec PyProof.Rows L2
/-! ### evaluation -/
section
variable {α β : Type} {Γ : DG} {S : DS}
/-- a mark that keeps the simplifier out of what comes later -/
structure Later {α β : Type} (k : α → DM β) : Type where
def DR.bnd {α β : Type} (r : DR α) (k : α → DM β) (_t : Later k := ⟨⟩) : DR β := r.bind k
@[simp] theorem bok {a : α} {k : α → DM β} : (DR.ok a S).bnd k = k a S := Eq.trans rfl rfl
@[simp] theorem bexc {c : Str} {fs : List (Str × DV)} {k : α → DM β} : (DR.exc c fs S : DR α).bnd k = .exc c fs S := Eq.trans rfl rfl
@[simp] theorem bbad {k : α → DM β} : (DR.bad : DR α).bnd k = .bad := Eq.trans rfl rfl
@[simp] theorem str_inj (a b : String) : (Str.ofString a = Str.ofString b) = (a = b) := by
  refine propext ⟨fun h => ?_, fun h => by rw [h]⟩
  rw [Str.ofString_eq_toList, Str.ofString_eq_toList] at h
  have h1 := congrArg (fun s : Str => s.cps.toList) h
  have h2 : a.toList.map Char.toNat = b.toList.map Char.toNat := by simpa using h1
  have inj : Function.Injective Char.toNat := fun x y e => by
    rw [← Char.toNat_val, ← Char.toNat_val] at e
    exact Char.ext (UInt32.toNat.inj e)
  exact String.toList_inj.mp ((List.map_inj_right fun x y e => inj e).mp h2)
/-- a truth value is asked -/
def tst (d : DV) (k : Bool → DR α) : DR α := match d with
  | .bl b => k b
  | _ => .bad
@[simp] theorem tst_bl {b : Bool} {k : Bool → DR α} : tst (.bl b) k = k b := Eq.trans rfl rfl
@[simp] theorem mVar_0 {d : DV} : mVar 0 (some d :: Γ) S = .ok d S := Eq.trans rfl rfl
@[simp] theorem mVar_s {i : Nat} {x : Option DV} : mVar (i + 1) (x :: Γ) S = mVar i Γ S := Eq.trans rfl rfl
@[simp] theorem mCst_ap {d : DV} : mCst d Γ S = .ok d S := Eq.trans rfl rfl
@[simp] theorem mBin_ap {p : DV → DV → DM DV} {a b : EM} : mBin p a b Γ S = (a Γ S).bnd fun x S1 => (b Γ S1).bnd fun y S2 => p x y S2 := Eq.trans rfl rfl
@[simp] theorem mTest_ap {m : EM} : mTest m Γ S = (m Γ S).bnd fun d S1 => tst d fun b => .ok b S1 := by
  unfold mTest
  congr
@[simp] theorem mAndT_ap {a b : TM} : mAndT a b Γ S = (a Γ S).bnd fun c S1 => if c = true then b Γ S1 else .ok false S1 := Eq.trans rfl rfl
@[simp] theorem mOrT_ap {a b : TM} : mOrT a b Γ S = (a Γ S).bnd fun c S1 => if c = true then .ok true S1 else b Γ S1 := Eq.trans rfl rfl
@[simp] theorem mNotT_ap {a : TM} : mNotT a Γ S = (a Γ S).bnd fun c S1 => .ok (!c) S1 := Eq.trans rfl rfl
@[simp] theorem mAndV_ap {a b : EM} : mAndV a b Γ S = (a Γ S).bnd fun d S1 => tst d fun c => if c = true then b Γ S1 else .ok (.bl false) S1 := by
  unfold mAndV
  congr
  funext d S1
  cases d with
  | bl b => cases b <;> rfl
  | _ => rfl
@[simp] theorem mOrV_ap {a b : EM} : mOrV a b Γ S = (a Γ S).bnd fun d S1 => tst d fun c => if c = true then .ok (.bl true) S1 else b Γ S1 := by
  unfold mOrV
  congr
  funext d S1
  cases d with
  | bl b => cases b <;> rfl
  | _ => rfl
@[simp] theorem mNotV_ap {a : EM} : mNotV a Γ S = (a Γ S).bnd fun d S1 => tst d fun c => .ok (.bl (!c)) S1 := by
  unfold mNotV
  congr
def negK (d : DV) (S : DS) : DR DV := match d with
  | .int c => .ok (.int (-c)) S
  | _ => .bad
@[simp] theorem negK_i {i : Int} : negK (.int i) S = .ok (.int (-i)) S := Eq.trans rfl rfl
@[simp] theorem mNeg_ap {a : EM} : mNeg a Γ S = (a Γ S).bnd negK := by
  unfold mNeg
  congr
@[simp] theorem mIf_ap {t : TM} {a b : EM} : mIf t a b Γ S = (t Γ S).bnd fun c S1 => if c = true then a Γ S1 else b Γ S1 := Eq.trans rfl rfl
@[simp] theorem mIfT_ap {t : TM} {a b : TM} : mIfT t a b Γ S = (t Γ S).bnd fun c S1 => if c = true then a Γ S1 else b Γ S1 := Eq.trans rfl rfl
@[simp] theorem mIsN_ap {neg : Bool} {a : EM} : mIsN neg a Γ S = (a Γ S).bnd fun d S1 => .ok (.bl (neg ^^ decide (d = .non))) S1 := Eq.trans rfl rfl
@[simp] theorem mChain_ap {p q : DV → DV → DM DV} {a b c : EM} : mChain p q a b c Γ S = (a Γ S).bnd fun x S1 => (b Γ S1).bnd fun y S2 => (p x y S2).bnd fun z S3 => tst z fun k => if k = true then (c Γ S3).bnd fun t S4 => q y t S4 else .ok (.bl false) S3 := by
  unfold mChain
  congr
  funext x S1
  congr
  funext y S2
  congr
  funext z S3
  cases z with
  | bl b => cases b <;> rfl
  | _ => rfl
/-! lists of values -/
@[simp] theorem mNil_ap : mNil Γ S = .ok [] S := Eq.trans rfl rfl
@[simp] theorem mCons_ap {m : EM} {r : AM} : mCons m r Γ S = (m Γ S).bnd fun d S1 => (r Γ S1).bnd fun ds S2 => .ok (d :: ds) S2 := Eq.trans rfl rfl
def starK (S1 : DS) (o : Option (List DV)) (k : List DV → DR α) : DR α := match o with
  | some l => k l
  | none => .bad
@[simp] theorem starK_s {l : List DV} {k : List DV → DR α} : starK S (some l) k = k l := Eq.trans rfl rfl
@[simp] theorem mStar_ap {m : EM} {r : AM} : mStar m r Γ S = (m Γ S).bnd fun d S1 => starK S1 (itemsOf S1 d) fun l => (r Γ S1).bnd fun ds S2 => .ok (l ++ ds) S2 := by
  unfold mStar
  congr
@[simp] theorem items_tup {l : List DV} : itemsOf S (.tup l) = some l := Eq.trans rfl rfl
theorem items_ref {n : Nat} {l : List DV} (h : S[n]? = some (.lst l)) : itemsOf S (.ref n) = some l := by
  simp only [itemsOf, h]
theorem le_sz {n : Nat} (h : n ≤ 100000) : (n ≤ sizeLine) = True := eq_true (Nat.le_trans h (by decide))
theorem lt_sz {n : Nat} (h : n ≤ 100000) : (n < sizeLine) = True := eq_true (Nat.lt_of_le_of_lt h (by decide))
@[simp] theorem mTup_ap {r : AM} : mTup r Γ S = (r Γ S).bnd fun ds S1 => if ds.length ≤ sizeLine then .ok (.tup ds) S1 else .bad := Eq.trans rfl rfl
@[simp] theorem mLst_ap {r : AM} : mLst r Γ S = (r Γ S).bnd fun ds S1 => if ds.length ≤ sizeLine then newLst ds S1 else .bad := Eq.trans rfl rfl
@[simp] theorem newLst_ap {l : List DV} : newLst l S = .ok (.ref S.length) (S ++ [.lst l]) := Eq.trans rfl rfl
/-! calls -/
@[simp] theorem mCallF_ap {g : DFn} {dd : List DV} {m : AM} : mCallF g dd m Γ S = (m Γ S).bnd fun ds S1 => g (ds ++ dd) S1 := Eq.trans rfl rfl
@[simp] theorem mCallB_ap {p : PN} {m : AM} : mCallB p m Γ S = (m Γ S).bnd fun ds S1 => p ds S1 := Eq.trans rfl rfl
def makeK (n : Nat) (d : DV) (S : DS) : DR DV := match d with
  | .non => .ok (.ref n) S
  | _ => .bad
@[simp] theorem makeK_n {n : Nat} : makeK n .non S = .ok (.ref n) S := Eq.trans rfl rfl
@[simp] theorem mMake_ap {c : Str} {g : DFn} {dd : List DV} {m : AM} : mMake c g dd m Γ S = (m Γ S).bnd fun ds S1 => (g (.ref S1.length :: (ds ++ dd)) (S1 ++ [.ins c []])).bnd (makeK S1.length) := by
  unfold mMake
  congr
/-! statements -/
@[simp] theorem mNext_ap : mNext Γ S = .ok (.nx, Γ) S := Eq.trans rfl rfl
def seqK (b : SM) (r : DF × DG) (S : DS) : DR (DF × DG) := match r.1 with
  | .nx => b r.2 S
  | _ => .ok r S
@[simp] theorem seqK_nx {b : SM} : seqK b (.nx, Γ) S = b Γ S := Eq.trans rfl rfl
@[simp] theorem seqK_rt {b : SM} {d : DV} : seqK b (.rt d, Γ) S = .ok (.rt d, Γ) S := Eq.trans rfl rfl
@[simp] theorem mSeq_ap {a b : SM} : mSeq a b Γ S = (a Γ S).bnd (seqK b) := by
  unfold mSeq
  congr
@[simp] theorem mExp_ap {m : EM} : mExp m Γ S = (m Γ S).bnd fun _ S1 => .ok (.nx, Γ) S1 := Eq.trans rfl rfl
@[simp] theorem mRet_ap {m : EM} : mRet m Γ S = (m Γ S).bnd fun d S1 => .ok (.rt d, Γ) S1 := Eq.trans rfl rfl
@[simp] theorem mRetN_ap : mRetN Γ S = .ok (.rt .non, Γ) S := Eq.trans rfl rfl
@[simp] theorem mIfS_ap {t : TM} {a b : SM} : mIfS t a b Γ S = (t Γ S).bnd fun c S1 => if c = true then a Γ S1 else b Γ S1 := Eq.trans rfl rfl
@[simp] theorem mSet_ap {i : Nat} {m : EM} : mSet i m Γ S = (m Γ S).bnd fun d S1 => .ok (.nx, Γ.set i (some d)) S1 := Eq.trans rfl rfl
def retK (r : DF × DG) (S : DS) : DR DV := match r.1 with
  | .nx => .ok .non S
  | .rt d => .ok d S
  | _ => .bad
@[simp] theorem retK_nx : retK (.nx, Γ) S = .ok .non S := Eq.trans rfl rfl
@[simp] theorem retK_rt {d : DV} : retK (.rt d, Γ) S = .ok d S := Eq.trans rfl rfl
theorem fnD_eq {n s : Nat} {b : SM} {ds : List DV} (h : ds.length = n) : fnD n s b ds S = (b (ds.map some ++ List.replicate (s - n) none) S).bnd retK := by
  unfold fnD
  rw [if_pos h]
  congr
@[simp] theorem fnD_0 {s : Nat} {b : SM} : fnD 0 s b [] S = (b (List.replicate s none) S).bnd retK := fnD_eq rfl
@[simp] theorem fnD_1 {s : Nat} {b : SM} {x : DV} : fnD 1 s b [x] S = (b (some x :: List.replicate (s - 1) none) S).bnd retK := fnD_eq rfl
@[simp] theorem fnD_2 {s : Nat} {b : SM} {x y : DV} : fnD 2 s b [x, y] S = (b (some x :: some y :: List.replicate (s - 2) none) S).bnd retK := fnD_eq rfl
@[simp] theorem fnD_3 {s : Nat} {b : SM} {x y z : DV} : fnD 3 s b [x, y, z] S = (b (some x :: some y :: some z :: List.replicate (s - 3) none) S).bnd retK := fnD_eq rfl
@[simp] theorem fnD_4 {s : Nat} {b : SM} {x y z u : DV} : fnD 4 s b [x, y, z, u] S = (b (some x :: some y :: some z :: some u :: List.replicate (s - 4) none) S).bnd retK := fnD_eq rfl
@[simp] theorem fnD_6 {s : Nat} {b : SM} {x y z u v t : DV} : fnD 6 s b [x, y, z, u, v, t] S = (b (some x :: some y :: some z :: some u :: some v :: some t :: List.replicate (s - 6) none) S).bnd retK := fnD_eq rfl
/-! operators -/
@[simp] theorem add_i {a b : Int} : oAdd (.int a) (.int b) S = .ok (.int (a + b)) S := Eq.trans rfl rfl
@[simp] theorem add_s {a b : Str} : oAdd (.str a) (.str b) S = if a.length + b.length ≤ sizeLine then .ok (.str (a ++ b)) S else .bad := Eq.trans rfl rfl
@[simp] theorem add_t {a b : List DV} : oAdd (.tup a) (.tup b) S = if a.length + b.length ≤ sizeLine then .ok (.tup (a ++ b)) S else .bad := Eq.trans rfl rfl
theorem add_r {a b : Nat} {x y : List DV} (ha : S[a]? = some (.lst x)) (hb : S[b]? = some (.lst y)) (hz : x.length + y.length ≤ sizeLine) : oAdd (.ref a) (.ref b) S = .ok (.ref S.length) (S ++ [.lst (x ++ y)]) := by
  unfold oAdd
  simp only [ha, hb, if_pos hz, newLst_ap]
@[simp] theorem sub_i {a b : Int} : oSub (.int a) (.int b) S = .ok (.int (a - b)) S := Eq.trans rfl rfl
@[simp] theorem mul_i {a b : Int} : oMul (.int a) (.int b) S = if ((-(2 ^ 64) < a ∧ a < 2 ^ 64) ∨ (-(2 ^ 64) < b ∧ b < 2 ^ 64)) then .ok (.int (a * b)) S else .bad := Eq.trans rfl rfl
@[simp] theorem fdiv_i {a b : Int} : oFdiv (.int a) (.int b) S = if 0 < b ∧ b < 1073741824 then .ok (.int (a / b)) S else .bad := Eq.trans rfl rfl
@[simp] theorem mod_i {a b : Int} : oMod (.int a) (.int b) S = if 0 < b then .ok (.int (a % b)) S else .bad := Eq.trans rfl rfl
@[simp] theorem pow_i {a b : Int} : oPow (.int a) (.int b) S = if 0 ≤ b ∧ b ≤ 1000000 ∧ a.natAbs < 2 ^ 64 then .ok (.int (a ^ b.toNat)) S else .bad := Eq.trans rfl rfl
@[simp] theorem cmp_i {p : Int → Int → Bool} {a b : Int} : oCmp p (.int a) (.int b) S = .ok (.bl (p a b)) S := Eq.trans rfl rfl
/-! stores -/
@[simp] theorem at_off {l : DS} {k : Nat} : (S ++ l)[S.length + k]? = l[k]? := by
  rw [List.getElem?_append_right (by omega)]
  congr 1
  omega
@[simp] theorem at_off0 {l : DS} : (S ++ l)[S.length]? = l[0]? := at_off (k := 0)
theorem at_in {l : DS} {n : Nat} (h : n < S.length) : (S ++ l)[n]? = S[n]? := List.getElem?_append_left h
@[simp] theorem set_off {l : DS} {k : Nat} {o : DO} : (S ++ l).set (S.length + k) o = S ++ l.set k o := by
  rw [List.set_append_right _ _ (by omega)]
  congr 2
  omega
@[simp] theorem set_off0 {l : DS} {o : DO} : (S ++ l).set S.length o = S ++ l.set 0 o := set_off (k := 0)
theorem set_in {l : DS} {n : Nat} {o : DO} (h : n < S.length) : (S ++ l).set n o = S.set n o ++ l := List.set_append_left _ _ h
theorem lt_add' {n m k : Nat} (h : n < m) : n < m + k := Nat.lt_add_right k h
theorem lt_some {n : Nat} {o : DO} (h : S[n]? = some o) : n < S.length := (List.getElem?_eq_some_iff.mp h).1
end
end KN
set_option maxHeartbeats 200000
namespace KN
open PySem PySem.Spec PyProof.Rows L2
section
variable {α β : Type} {Γ : DG} {S : DS}
/-! what stands at a number -/
def itK : Option DO → Option (List DV)
  | some (.lst l) => some l
  | _ => none
@[simp] theorem itK_l {l : List DV} : itK (some (.lst l)) = some l := Eq.trans rfl rfl
@[simp] theorem items_r {n : Nat} : itemsOf S (.ref n) = itK S[n]? := by
  unfold itemsOf itK
  rfl
def lenK (o : Option DO) (S : DS) : DR DV := match o with
  | some (.lst l) => .ok (.int l.length) S
  | some (.dct _ kvs) => .ok (.int kvs.length) S
  | _ => .bad
@[simp] theorem lenK_l {l : List DV} : lenK (some (.lst l)) S = .ok (.int l.length) S := Eq.trans rfl rfl
@[simp] theorem lenK_d {b : Bool} {l : List (DV × DV)} : lenK (some (.dct b l)) S = .ok (.int l.length) S := Eq.trans rfl rfl
@[simp] theorem len_t {l : List DV} : oLen [.tup l] S = .ok (.int l.length) S := Eq.trans rfl rfl
@[simp] theorem len_s {z : Str} : oLen [.str z] S = if z.length ≤ sizeLine then .ok (.int z.length) S else .bad := Eq.trans rfl rfl
@[simp] theorem len_r {n : Nat} : oLen [.ref n] S = lenK S[n]? S := Eq.trans rfl rfl
def listK (o : Option DO) (S : DS) : DR DV := match o with
  | some (.lst l) => newLst l S
  | some (.dct _ kvs) => newLst (kvs.map (·.1)) S
  | _ => .bad
@[simp] theorem listK_l {l : List DV} : listK (some (.lst l)) S = newLst l S := Eq.trans rfl rfl
@[simp] theorem listK_d {b : Bool} {l : List (DV × DV)} : listK (some (.dct b l)) S = newLst (l.map (·.1)) S := Eq.trans rfl rfl
@[simp] theorem list_t {l : List DV} : oList [.tup l] S = newLst l S := Eq.trans rfl rfl
@[simp] theorem list_r {n : Nat} : oList [.ref n] S = listK S[n]? S := by
  unfold oList listK
  simp only [itemsOf]
  cases h : S[n]? with
  | none => rfl
  | some o => cases o <;> rfl
def tupK' (o : Option (List DV)) (S : DS) : DR DV := match o with
  | some l => .ok (.tup l) S
  | none => .bad
@[simp] theorem tupK_s {l : List DV} : tupK' (some l) S = .ok (.tup l) S := Eq.trans rfl rfl
@[simp] theorem tuple_ap {x : DV} : oTuple [x] S = tupK' (itemsOf S x) S := by
  unfold oTuple tupK'
  rfl
def anyK (f : List Bool → Bool) (o : Option (List Bool)) (S : DS) : DR DV := match o with
  | some l => .ok (.bl (f l)) S
  | none => .bad
@[simp] theorem anyK_s {f : List Bool → Bool} {l : List Bool} : anyK f (some l) S = .ok (.bl (f l)) S := Eq.trans rfl rfl
def lstK (o : Option DO) : Option (List Bool) := match o with
  | some (.lst l) => blsOf l
  | _ => none
@[simp] theorem lstK_l {l : List DV} : lstK (some (.lst l)) = blsOf l := Eq.trans rfl rfl
@[simp] theorem any_r {n : Nat} : oAny [.ref n] S = anyK (fun l => l.any id) (lstK S[n]?) S := by
  unfold oAny anyK lstK
  cases h : S[n]? with
  | none => simp only [h]
  | some o => cases o <;> simp only [h] <;> rfl
@[simp] theorem all_r {n : Nat} : oAll [.ref n] S = anyK (fun l => l.all id) (lstK S[n]?) S := by
  unfold oAll anyK lstK
  cases h : S[n]? with
  | none => simp only [h]
  | some o => cases o <;> simp only [h] <;> rfl
@[simp] theorem bls_nil : blsOf [] = some [] := Eq.trans rfl rfl
@[simp] theorem bls_cons {b : Bool} {l : List DV} : blsOf (.bl b :: l) = (blsOf l).map (b :: ·) := Eq.trans rfl rfl
@[simp] theorem bls_map {γ : Type} {f : γ → Bool} {l : List γ} : blsOf (l.map fun x => .bl (f x)) = some (l.map f) := by
  induction l with
  | nil => rfl
  | cons a l ih => simp [ih]
/-! indices -/
def okO (o : Option DV) (S : DS) : DR DV := match o with
  | some d => .ok d S
  | none => .bad
@[simp] theorem okO_s {d : DV} : okO (some d) S = .ok d S := Eq.trans rfl rfl
def ixK (o : Option DO) (k : DV) (S : DS) : DR DV := match o with
  | some (.lst l) => match k with
    | .int i => okO (atI l i) S
    | _ => .bad
  | some (.dct _ kvs) => match oGet kvs k with
    | some o => okO o S
    | _ => .bad
  | _ => .bad
@[simp] theorem ixK_l {l : List DV} {i : Int} : ixK (some (.lst l)) (.int i) S = okO (atI l i) S := Eq.trans rfl rfl
theorem ixK_d {b : Bool} {kvs : List (DV × DV)} {k : DV} {o : Option DV} (h : oGet kvs k = some o) : ixK (some (.dct b kvs)) k S = okO o S := by
  unfold ixK
  simp only [h]
@[simp] theorem ix_t {l : List DV} {i : Int} : oIx (.tup l) (.int i) S = okO (atI l i) S := Eq.trans rfl rfl
@[simp] theorem ix_r {n : Nat} {k : DV} : oIx (.ref n) k S = ixK S[n]? k S := by
  unfold oIx ixK
  dsimp only
  cases h : S[n]? with
  | none => rfl
  | some o =>
    cases o with
    | lst l => cases k <;> rfl
    | dct b kvs =>
      dsimp only
      cases e : oGet kvs k with
      | none => rfl
      | some o => cases o <;> rfl
    | ins c fs => rfl
theorem atI_n {γ : Type} {l : List γ} {k : Nat} : atI l (k : Int) = l[k]? := by
  unfold atI ixN
  rw [if_pos (by omega)]
  by_cases h : k < l.length
  · rw [if_pos (by omega)]
    simp
  · rw [if_neg (by omega)]
    simp at h
    simp [h]
@[simp] theorem atI_0 {γ : Type} {a : γ} {l : List γ} : atI (a :: l) 0 = some a := atI_n (k := 0)
@[simp] theorem atI_1 {γ : Type} {a b : γ} {l : List γ} : atI (a :: b :: l) 1 = some b := atI_n (k := 1)
@[simp] theorem atI_2 {γ : Type} {a b c : γ} {l : List γ} : atI (a :: b :: c :: l) 2 = some c := atI_n (k := 2)
@[simp] theorem atI_3 {γ : Type} {a b c d : γ} {l : List γ} : atI (a :: b :: c :: d :: l) 3 = some d := atI_n (k := 3)
@[simp] theorem atI_4 {γ : Type} {a b c d e : γ} {l : List γ} : atI (a :: b :: c :: d :: e :: l) 4 = some e := atI_n (k := 4)
/-! attributes -/
@[simp] theorem lk_hit {γ : Type} {a : Str} {v : γ} {r : List (Str × γ)} : List.lookup a ((a, v) :: r) = some v := by simp [List.lookup]
theorem lk_miss {γ : Type} {a b : Str} {v : γ} {r : List (Str × γ)} (h : a ≠ b) : List.lookup a ((b, v) :: r) = List.lookup a r := by
  rw [List.lookup]
  have e : (a == b) = false := by simpa using h
  rw [e]
@[simp] theorem lk_lit {γ : Type} {a b : String} {v : γ} {r : List (Str × γ)} (h : a ≠ b) : List.lookup (Str.ofString a) ((Str.ofString b, v) :: r) = List.lookup (Str.ofString a) r := lk_miss (by simpa using h)
@[simp] theorem put_nil {f : Str} {v : DV} : putD f v [] = [(f, v)] := Eq.trans rfl rfl
@[simp] theorem put_hit {f : Str} {v x : DV} {r : List (Str × DV)} : putD f v ((f, x) :: r) = (f, v) :: r := by
  unfold putD
  rw [if_pos rfl]
@[simp] theorem put_lit {f g : String} {v x : DV} {r : List (Str × DV)} (h : g ≠ f) : putD (Str.ofString f) v ((Str.ofString g, x) :: r) = (Str.ofString g, x) :: putD (Str.ofString f) v r := by
  rw [putD, if_neg (by simpa using h)]
@[simp] theorem l2_nil {γ δ : Type} [DecidableEq γ] {x : Str} {y : γ} : look2 ([] : List (Str × γ × δ)) x y = none := Eq.trans rfl rfl
@[simp] theorem l2_hit {γ δ : Type} [DecidableEq γ] {x : Str} {y : γ} {b : δ} {r : List (Str × γ × δ)} : look2 ((x, y, b) :: r) x y = some b := by
  rw [look2, if_pos ⟨rfl, rfl⟩]
@[simp] theorem l2_lit {δ : Type} {x x' y y' : String} {b : δ} {r : List (Str × Str × δ)} (h : ¬ (x' = x ∧ y' = y)) : look2 ((Str.ofString x', Str.ofString y', b) :: r) (Str.ofString x) (Str.ofString y) = look2 r (Str.ofString x) (Str.ofString y) := by
  rw [look2, if_neg (by simpa using h)]
@[simp] theorem noT_ap {c m : Str} : noT c m = none := Eq.trans rfl rfl
def fldK (fl : Str → Str → Bool) (f c : Str) (fs : List (Str × DV)) (S : DS) : DR DV := if fl c f = true then okO (fs.lookup f) S else .bad
@[simp] theorem fldK_ap {fl : Str → Str → Bool} {f c : Str} {fs : List (Str × DV)} : fldK fl f c fs S = if fl c f = true then okO (fs.lookup f) S else .bad := Eq.trans rfl rfl
def prK (r : DR DV) : DR DV := match r with
  | .ok d S2 => .ok d S2
  | _ => .bad
@[simp] theorem prK_ok {d : DV} : prK (.ok d S) = .ok d S := Eq.trans rfl rfl
def propK (pr : Option DFn) (fl : Str → Str → Bool) (f c : Str) (fs : List (Str × DV)) (x : DV) (S : DS) : DR DV := match pr with
  | some g => prK (g [x] S)
  | none => fldK fl f c fs S
@[simp] theorem propK_n {fl : Str → Str → Bool} {f c : Str} {fs : List (Str × DV)} {x : DV} : propK none fl f c fs x S = fldK fl f c fs S := Eq.trans rfl rfl
@[simp] theorem propK_s {g : DFn} {fl : Str → Str → Bool} {f c : Str} {fs : List (Str × DV)} {x : DV} : propK (some g) fl f c fs x S = prK (g [x] S) := Eq.trans rfl rfl
def insK {γ : Type} (o : Option DO) (k : Str → List (Str × DV) → DR γ) : DR γ := match o with
  | some (.ins c fs) => k c fs
  | _ => .bad
@[simp] theorem insK_i {γ : Type} {c : Str} {fs : List (Str × DV)} {k : Str → List (Str × DV) → DR γ} : insK (some (.ins c fs)) k = k c fs := Eq.trans rfl rfl
def refK {γ : Type} (x : DV) (k : Nat → DR γ) : DR γ := match x with
  | .ref n => k n
  | _ => .bad
@[simp] theorem refK_r {γ : Type} {n : Nat} {k : Nat → DR γ} : refK (.ref n) k = k n := Eq.trans rfl rfl
@[simp] theorem mAttr_ap {pr : Str → Str → Option DFn} {fl : Str → Str → Bool} {f : Str} {o : EM} : mAttr pr fl f o Γ S = (o Γ S).bnd fun x S1 => refK x fun n => insK S1[n]? fun c fs => propK (pr c f) fl f c fs x S1 := by
  unfold mAttr
  refine congrArg (fun k => DR.bnd (o Γ S) k) ?_
  funext x S1
  cases x with
  | ref n =>
    show (match S1[n]? with | some (.ins c fs) => _ | _ => _) = insK S1[n]? _
    cases h : S1[n]? with
    | none => rfl
    | some o =>
      cases o with
      | ins c fs =>
        dsimp only [insK]
        cases e : pr c f with
        | none =>
          dsimp only [propK, fldK]
          split
          · cases fs.lookup f <;> rfl
          · rfl
        | some g =>
          dsimp only [propK, prK]
          first | done | (cases g [.ref n] S1 <;> rfl)
      | _ => rfl
  | _ => rfl
def setFK (fl : Str → Str → Bool) (f : Str) (d : DV) (n : Nat) (c : Str) (fs : List (Str × DV)) (S : DS) : DR Unit := if fl c f = true ∧ fs.length < 1000 then .ok () (S.set n (.ins c (putD f d fs))) else .bad
@[simp] theorem setFK_ap {fl : Str → Str → Bool} {f : Str} {d : DV} {n : Nat} {c : Str} {fs : List (Str × DV)} : setFK fl f d n c fs S = if fl c f = true ∧ fs.length < 1000 then .ok () (S.set n (.ins c (putD f d fs))) else .bad := Eq.trans rfl rfl
@[simp] theorem setF_ap {fl : Str → Str → Bool} {f : Str} {x d : DV} : oSetF fl f x d S = refK x fun n => insK S[n]? fun c fs => setFK fl f d n c fs S := by
  unfold oSetF
  cases x with
  | ref n =>
    dsimp only [refK]
    cases S[n]? with
    | none => rfl
    | some o => cases o <;> rfl
  | _ => rfl
@[simp] theorem mFld_ap {fl : Str → Str → Bool} {f : Str} {v o : EM} : mFld fl f v o Γ S = (v Γ S).bnd fun d S1 => (o Γ S1).bnd fun x S2 => (oSetF fl f x d S2).bnd fun _ S3 => .ok (.nx, Γ) S3 := Eq.trans rfl rfl
/-! methods -/
def methK (mt : Str → Str → Option DFn) (m : Str) (x : DV) (a : DM (List DV)) (o : Option DO) (S : DS) : DR DV := match o with
  | some (.ins c fs) => match mt c m, fs.lookup m with
    | some g, none => (a S).bnd fun ds S2 => g (x :: ds) S2
    | _, _ => .bad
  | some (.lst _) => match bmP m .list with
    | some p => (a S).bnd fun ds S2 => p x ds S2
    | none => .bad
  | some (.dct _ _) => match bmP m .dict with
    | some p => (a S).bnd fun ds S2 => p x ds S2
    | none => .bad
  | none => .bad
def bmK (p : Option (DV → List DV → DM DV)) (x : DV) (a : DM (List DV)) (S : DS) : DR DV := match p with
  | some p => (a S).bnd fun ds S2 => p x ds S2
  | none => .bad
@[simp] theorem bmK_s {p : DV → List DV → DM DV} {x : DV} {a : DM (List DV)} : bmK (some p) x a S = (a S).bnd fun ds S2 => p x ds S2 := Eq.trans rfl rfl
def insM (g : Option DFn) (f : Option DV) (x : DV) (a : DM (List DV)) (S : DS) : DR DV := match g, f with
  | some g, none => (a S).bnd fun ds S2 => g (x :: ds) S2
  | _, _ => .bad
@[simp] theorem insM_s {g : DFn} {x : DV} {a : DM (List DV)} : insM (some g) none x a S = (a S).bnd fun ds S2 => g (x :: ds) S2 := Eq.trans rfl rfl
@[simp] theorem methK_i {mt : Str → Str → Option DFn} {m : Str} {x : DV} {a : DM (List DV)} {c : Str} {fs : List (Str × DV)} : methK mt m x a (some (.ins c fs)) S = insM (mt c m) (fs.lookup m) x a S := Eq.trans rfl rfl
@[simp] theorem methK_l {mt : Str → Str → Option DFn} {m : Str} {x : DV} {a : DM (List DV)} {l : List DV} : methK mt m x a (some (.lst l)) S = bmK (bmP m .list) x a S := Eq.trans rfl rfl
@[simp] theorem methK_d {mt : Str → Str → Option DFn} {m : Str} {x : DV} {a : DM (List DV)} {b : Bool} {l : List (DV × DV)} : methK mt m x a (some (.dct b l)) S = bmK (bmP m .dict) x a S := Eq.trans rfl rfl
def callK (mt : Str → Str → Option DFn) (m : Str) (x : DV) (a : DM (List DV)) (S : DS) : DR DV := match x with
  | .ref n => methK mt m x a S[n]? S
  | .tup _ => bmK (bmP m .tuple) x a S
  | .str _ => bmK (bmP m .str) x a S
  | _ => .bad
@[simp] theorem callK_r {mt : Str → Str → Option DFn} {m : Str} {n : Nat} {a : DM (List DV)} : callK mt m (.ref n) a S = methK mt m (.ref n) a S[n]? S := Eq.trans rfl rfl
@[simp] theorem callK_t {mt : Str → Str → Option DFn} {m : Str} {l : List DV} {a : DM (List DV)} : callK mt m (.tup l) a S = bmK (bmP m .tuple) (.tup l) a S := Eq.trans rfl rfl
@[simp] theorem callK_s {mt : Str → Str → Option DFn} {m : Str} {l : Str} {a : DM (List DV)} : callK mt m (.str l) a S = bmK (bmP m .str) (.str l) a S := Eq.trans rfl rfl
@[simp] theorem mCallM_ap {mt : Str → Str → Option DFn} {m : Str} {o : EM} {a : AM} : mCallM mt m o a Γ S = (o Γ S).bnd fun x S1 => callK mt m x (a Γ) S1 := by
  unfold mCallM
  congr
  funext x S1
  cases x with
  | ref n =>
    dsimp only [callK, tyD]
    cases h : S1[n]? with
    | none => rfl
    | some o =>
      cases o with
      | lst l => dsimp only [methK]; cases bmP m .list <;> rfl
      | dct b l => dsimp only [methK]; cases bmP m .dict <;> rfl
      | ins c fs => rfl
  | tup l => dsimp only [callK, tyD, bmK]; cases bmP m .tuple <;> rfl
  | str l => dsimp only [callK, tyD, bmK]; cases bmP m .str <;> rfl
  | _ => rfl
end
end KN
set_option maxHeartbeats 200000
namespace KN
open PySem PySem.Spec PyProof.Rows L2
section
variable {α β : Type} {Γ : DG} {S : DS}
/-! isinstance -/
@[simp] theorem mIsi_ap {io : TyN → TyN → Option Bool} {ic : Str → Bool} {c : TyN} {m : EM} : mIsi io ic c m Γ S = (m Γ S).bnd fun d S1 => oIsi io ic c d S1 := Eq.trans rfl rfl
def isiR (c : TyN) (o : Option DO) (S : DS) : DR DV := match o with
  | some (.lst _) => okB (ioF CWP.cls (.bi "list") c) S
  | some (.dct _ _) => okB (ioF CWP.cls (.bi "dict") c) S
  | some (.ins k _) => if CWP.ic k = true then okB (ioF CWP.cls (.own k) c) S else .bad
  | none => .bad
where okB (o : Option Bool) (S : DS) : DR DV := match o with
  | some b => .ok (.bl b) S
  | none => .bad
@[simp] theorem isi_r {c : TyN} {n : Nat} : oIsi (ioF CWP.cls) CWP.ic c (.ref n) S = isiR c S[n]? S := by
  unfold oIsi isiR tyOf isiR.okB
  dsimp only
  cases S[n]? with
  | none => rfl
  | some o =>
    cases o with
    | lst l => cases h : ioF CWP.cls (.bi "list") c <;> simp [h]
    | dct b l => cases h : ioF CWP.cls (.bi "dict") c <;> simp [h]
    | ins k fs =>
      cases h1 : CWP.ic k <;> cases h : ioF CWP.cls (.own k) c <;> simp [h, h1]
@[simp] theorem isi_bool_NoneType : oIsi (ioF CWP.cls) CWP.ic (.bi "bool") .non S = .ok (.bl false) S := Eq.trans (by kernel_rfl) rfl
@[simp] theorem isi_bool_bool {b : Bool} : oIsi (ioF CWP.cls) CWP.ic (.bi "bool") (.bl b) S = .ok (.bl true) S := Eq.trans (by kernel_rfl) rfl
@[simp] theorem isi_bool_int {i : Int} : oIsi (ioF CWP.cls) CWP.ic (.bi "bool") (.int i) S = .ok (.bl false) S := Eq.trans (by kernel_rfl) rfl
@[simp] theorem isi_bool_str {z : Str} : oIsi (ioF CWP.cls) CWP.ic (.bi "bool") (.str z) S = .ok (.bl false) S := Eq.trans (by kernel_rfl) rfl
@[simp] theorem isi_bool_tuple {l : List DV} : oIsi (ioF CWP.cls) CWP.ic (.bi "bool") (.tup l) S = .ok (.bl false) S := Eq.trans (by kernel_rfl) rfl
@[simp] theorem isiR_bool_list {l : List DV} : isiR (.bi "bool") (some (.lst l)) S = .ok (.bl false) S := Eq.trans (by kernel_rfl) rfl
@[simp] theorem isiR_bool_dict {b : Bool} {l : List (DV × DV)} : isiR (.bi "bool") (some (.dct b l)) S = .ok (.bl false) S := Eq.trans (by kernel_rfl) rfl
@[simp] theorem isiR_bool_Rule {l : List (Str × DV)} : isiR (.bi "bool") (some (.ins "Rule" l)) S = .ok (.bl false) S := Eq.trans (by kernel_rfl) rfl
@[simp] theorem isi_int_NoneType : oIsi (ioF CWP.cls) CWP.ic (.bi "int") .non S = .ok (.bl false) S := Eq.trans (by kernel_rfl) rfl
@[simp] theorem isi_int_bool {b : Bool} : oIsi (ioF CWP.cls) CWP.ic (.bi "int") (.bl b) S = .ok (.bl true) S := Eq.trans (by kernel_rfl) rfl
@[simp] theorem isi_int_int {i : Int} : oIsi (ioF CWP.cls) CWP.ic (.bi "int") (.int i) S = .ok (.bl true) S := Eq.trans (by kernel_rfl) rfl
@[simp] theorem isi_int_str {z : Str} : oIsi (ioF CWP.cls) CWP.ic (.bi "int") (.str z) S = .ok (.bl false) S := Eq.trans (by kernel_rfl) rfl
@[simp] theorem isi_int_tuple {l : List DV} : oIsi (ioF CWP.cls) CWP.ic (.bi "int") (.tup l) S = .ok (.bl false) S := Eq.trans (by kernel_rfl) rfl
@[simp] theorem isiR_int_list {l : List DV} : isiR (.bi "int") (some (.lst l)) S = .ok (.bl false) S := Eq.trans (by kernel_rfl) rfl
@[simp] theorem isiR_int_dict {b : Bool} {l : List (DV × DV)} : isiR (.bi "int") (some (.dct b l)) S = .ok (.bl false) S := Eq.trans (by kernel_rfl) rfl
@[simp] theorem isiR_int_Rule {l : List (Str × DV)} : isiR (.bi "int") (some (.ins "Rule" l)) S = .ok (.bl false) S := Eq.trans (by kernel_rfl) rfl
@[simp] theorem isi_str_NoneType : oIsi (ioF CWP.cls) CWP.ic (.bi "str") .non S = .ok (.bl false) S := Eq.trans (by kernel_rfl) rfl
@[simp] theorem isi_str_bool {b : Bool} : oIsi (ioF CWP.cls) CWP.ic (.bi "str") (.bl b) S = .ok (.bl false) S := Eq.trans (by kernel_rfl) rfl
@[simp] theorem isi_str_int {i : Int} : oIsi (ioF CWP.cls) CWP.ic (.bi "str") (.int i) S = .ok (.bl false) S := Eq.trans (by kernel_rfl) rfl
@[simp] theorem isi_str_str {z : Str} : oIsi (ioF CWP.cls) CWP.ic (.bi "str") (.str z) S = .ok (.bl true) S := Eq.trans (by kernel_rfl) rfl
@[simp] theorem isi_str_tuple {l : List DV} : oIsi (ioF CWP.cls) CWP.ic (.bi "str") (.tup l) S = .ok (.bl false) S := Eq.trans (by kernel_rfl) rfl
@[simp] theorem isiR_str_list {l : List DV} : isiR (.bi "str") (some (.lst l)) S = .ok (.bl false) S := Eq.trans (by kernel_rfl) rfl
@[simp] theorem isiR_str_dict {b : Bool} {l : List (DV × DV)} : isiR (.bi "str") (some (.dct b l)) S = .ok (.bl false) S := Eq.trans (by kernel_rfl) rfl
@[simp] theorem isiR_str_Rule {l : List (Str × DV)} : isiR (.bi "str") (some (.ins "Rule" l)) S = .ok (.bl false) S := Eq.trans (by kernel_rfl) rfl
@[simp] theorem isi_tuple_NoneType : oIsi (ioF CWP.cls) CWP.ic (.bi "tuple") .non S = .ok (.bl false) S := Eq.trans (by kernel_rfl) rfl
@[simp] theorem isi_tuple_bool {b : Bool} : oIsi (ioF CWP.cls) CWP.ic (.bi "tuple") (.bl b) S = .ok (.bl false) S := Eq.trans (by kernel_rfl) rfl
@[simp] theorem isi_tuple_int {i : Int} : oIsi (ioF CWP.cls) CWP.ic (.bi "tuple") (.int i) S = .ok (.bl false) S := Eq.trans (by kernel_rfl) rfl
@[simp] theorem isi_tuple_str {z : Str} : oIsi (ioF CWP.cls) CWP.ic (.bi "tuple") (.str z) S = .ok (.bl false) S := Eq.trans (by kernel_rfl) rfl
@[simp] theorem isi_tuple_tuple {l : List DV} : oIsi (ioF CWP.cls) CWP.ic (.bi "tuple") (.tup l) S = .ok (.bl true) S := Eq.trans (by kernel_rfl) rfl
@[simp] theorem isiR_tuple_list {l : List DV} : isiR (.bi "tuple") (some (.lst l)) S = .ok (.bl false) S := Eq.trans (by kernel_rfl) rfl
@[simp] theorem isiR_tuple_dict {b : Bool} {l : List (DV × DV)} : isiR (.bi "tuple") (some (.dct b l)) S = .ok (.bl false) S := Eq.trans (by kernel_rfl) rfl
@[simp] theorem isiR_tuple_Rule {l : List (Str × DV)} : isiR (.bi "tuple") (some (.ins "Rule" l)) S = .ok (.bl false) S := Eq.trans (by kernel_rfl) rfl
@[simp] theorem isi_list_NoneType : oIsi (ioF CWP.cls) CWP.ic (.bi "list") .non S = .ok (.bl false) S := Eq.trans (by kernel_rfl) rfl
@[simp] theorem isi_list_bool {b : Bool} : oIsi (ioF CWP.cls) CWP.ic (.bi "list") (.bl b) S = .ok (.bl false) S := Eq.trans (by kernel_rfl) rfl
@[simp] theorem isi_list_int {i : Int} : oIsi (ioF CWP.cls) CWP.ic (.bi "list") (.int i) S = .ok (.bl false) S := Eq.trans (by kernel_rfl) rfl
@[simp] theorem isi_list_str {z : Str} : oIsi (ioF CWP.cls) CWP.ic (.bi "list") (.str z) S = .ok (.bl false) S := Eq.trans (by kernel_rfl) rfl
@[simp] theorem isi_list_tuple {l : List DV} : oIsi (ioF CWP.cls) CWP.ic (.bi "list") (.tup l) S = .ok (.bl false) S := Eq.trans (by kernel_rfl) rfl
@[simp] theorem isiR_list_list {l : List DV} : isiR (.bi "list") (some (.lst l)) S = .ok (.bl true) S := Eq.trans (by kernel_rfl) rfl
@[simp] theorem isiR_list_dict {b : Bool} {l : List (DV × DV)} : isiR (.bi "list") (some (.dct b l)) S = .ok (.bl false) S := Eq.trans (by kernel_rfl) rfl
@[simp] theorem isiR_list_Rule {l : List (Str × DV)} : isiR (.bi "list") (some (.ins "Rule" l)) S = .ok (.bl false) S := Eq.trans (by kernel_rfl) rfl
@[simp] theorem isi_dict_NoneType : oIsi (ioF CWP.cls) CWP.ic (.bi "dict") .non S = .ok (.bl false) S := Eq.trans (by kernel_rfl) rfl
@[simp] theorem isi_dict_bool {b : Bool} : oIsi (ioF CWP.cls) CWP.ic (.bi "dict") (.bl b) S = .ok (.bl false) S := Eq.trans (by kernel_rfl) rfl
@[simp] theorem isi_dict_int {i : Int} : oIsi (ioF CWP.cls) CWP.ic (.bi "dict") (.int i) S = .ok (.bl false) S := Eq.trans (by kernel_rfl) rfl
@[simp] theorem isi_dict_str {z : Str} : oIsi (ioF CWP.cls) CWP.ic (.bi "dict") (.str z) S = .ok (.bl false) S := Eq.trans (by kernel_rfl) rfl
@[simp] theorem isi_dict_tuple {l : List DV} : oIsi (ioF CWP.cls) CWP.ic (.bi "dict") (.tup l) S = .ok (.bl false) S := Eq.trans (by kernel_rfl) rfl
@[simp] theorem isiR_dict_list {l : List DV} : isiR (.bi "dict") (some (.lst l)) S = .ok (.bl false) S := Eq.trans (by kernel_rfl) rfl
@[simp] theorem isiR_dict_dict {b : Bool} {l : List (DV × DV)} : isiR (.bi "dict") (some (.dct b l)) S = .ok (.bl true) S := Eq.trans (by kernel_rfl) rfl
@[simp] theorem isiR_dict_Rule {l : List (Str × DV)} : isiR (.bi "dict") (some (.ins "Rule" l)) S = .ok (.bl false) S := Eq.trans (by kernel_rfl) rfl
@[simp] theorem isi_Rule_NoneType : oIsi (ioF CWP.cls) CWP.ic (.own "Rule") .non S = .ok (.bl false) S := Eq.trans (by kernel_rfl) rfl
@[simp] theorem isi_Rule_bool {b : Bool} : oIsi (ioF CWP.cls) CWP.ic (.own "Rule") (.bl b) S = .ok (.bl false) S := Eq.trans (by kernel_rfl) rfl
@[simp] theorem isi_Rule_int {i : Int} : oIsi (ioF CWP.cls) CWP.ic (.own "Rule") (.int i) S = .ok (.bl false) S := Eq.trans (by kernel_rfl) rfl
@[simp] theorem isi_Rule_str {z : Str} : oIsi (ioF CWP.cls) CWP.ic (.own "Rule") (.str z) S = .ok (.bl false) S := Eq.trans (by kernel_rfl) rfl
@[simp] theorem isi_Rule_tuple {l : List DV} : oIsi (ioF CWP.cls) CWP.ic (.own "Rule") (.tup l) S = .ok (.bl false) S := Eq.trans (by kernel_rfl) rfl
@[simp] theorem isiR_Rule_list {l : List DV} : isiR (.own "Rule") (some (.lst l)) S = .ok (.bl false) S := Eq.trans (by kernel_rfl) rfl
@[simp] theorem isiR_Rule_dict {b : Bool} {l : List (DV × DV)} : isiR (.own "Rule") (some (.dct b l)) S = .ok (.bl false) S := Eq.trans (by kernel_rfl) rfl
@[simp] theorem isiR_Rule_Rule {l : List (Str × DV)} : isiR (.own "Rule") (some (.ins "Rule" l)) S = .ok (.bl true) S := Eq.trans (by kernel_rfl) rfl
/-! own fields -/
@[simp] theorem fl_Rule_in_turn : CWP.fl "Rule" "in_turn" = true := Eq.trans (by kernel_rfl) rfl
@[simp] theorem fl_Rule_nights : CWP.fl "Rule" "nights" = true := Eq.trans (by kernel_rfl) rfl
@[simp] theorem fl_Rule_some_cares : CWP.fl "Rule" "some_cares" = true := Eq.trans (by kernel_rfl) rfl
@[simp] theorem fl_Scene_meant : CWP.fl "Scene" "meant" = true := Eq.trans (by kernel_rfl) rfl
@[simp] theorem fl_Scene_names : CWP.fl "Scene" "names" = true := Eq.trans (by kernel_rfl) rfl
@[simp] theorem fl_Scene_places : CWP.fl "Scene" "places" = true := Eq.trans (by kernel_rfl) rfl
@[simp] theorem fl_Scene_pointer : CWP.fl "Scene" "pointer" = true := Eq.trans (by kernel_rfl) rfl
@[simp] theorem fl_Scene_rule_now : CWP.fl "Scene" "rule_now" = true := Eq.trans (by kernel_rfl) rfl
@[simp] theorem fl_Scene_turn : CWP.fl "Scene" "turn" = true := Eq.trans (by kernel_rfl) rfl
@[simp] theorem fl_Done_behind : CWP.fl "Done" "behind" = true := Eq.trans (by kernel_rfl) rfl
@[simp] theorem fl_Done_some : CWP.fl "Done" "some" = true := Eq.trans (by kernel_rfl) rfl
@[simp] theorem fl_Reached_first_faults : CWP.fl "Reached" "first_faults" = true := Eq.trans (by kernel_rfl) rfl
@[simp] theorem fl_Reached_goals : CWP.fl "Reached" "goals" = true := Eq.trans (by kernel_rfl) rfl
@[simp] theorem fl_Reached_histories : CWP.fl "Reached" "histories" = true := Eq.trans (by kernel_rfl) rfl
@[simp] theorem fl_Reached_order : CWP.fl "Reached" "order" = true := Eq.trans (by kernel_rfl) rfl
@[simp] theorem fl_Reached_rule_asked : CWP.fl "Reached" "rule_asked" = true := Eq.trans (by kernel_rfl) rfl
@[simp] theorem fl_Page_deed : CWP.fl "Page" "deed" = true := Eq.trans (by kernel_rfl) rfl
@[simp] theorem fl_Page_fresh : CWP.fl "Page" "fresh" = true := Eq.trans (by kernel_rfl) rfl
@[simp] theorem fl_Page_lost_rows : CWP.fl "Page" "lost_rows" = true := Eq.trans (by kernel_rfl) rfl
@[simp] theorem fl_Page_meant : CWP.fl "Page" "meant" = true := Eq.trans (by kernel_rfl) rfl
@[simp] theorem fl_Page_names : CWP.fl "Page" "names" = true := Eq.trans (by kernel_rfl) rfl
@[simp] theorem fl_Page_numbers : CWP.fl "Page" "numbers" = true := Eq.trans (by kernel_rfl) rfl
@[simp] theorem fl_Page_pointers : CWP.fl "Page" "pointers" = true := Eq.trans (by kernel_rfl) rfl
@[simp] theorem fl_Page_resting_now : CWP.fl "Page" "resting_now" = true := Eq.trans (by kernel_rfl) rfl
@[simp] theorem fl_Page_turn : CWP.fl "Page" "turn" = true := Eq.trans (by kernel_rfl) rfl
@[simp] theorem fl_Store_pages : CWP.fl "Store" "pages" = true := Eq.trans (by kernel_rfl) rfl
@[simp] theorem fl_Store_rule_now : CWP.fl "Store" "rule_now" = true := Eq.trans (by kernel_rfl) rfl
/-! plain data -/
mutual
def toPD : DV → PyData
  | .non => .none
  | .bl b => .bool b
  | .int i => .int i
  | .str x => .str x
  | .tup l => .tuple (toPDs l)
  | _ => .none
def toPDs : List DV → List PyData
  | [] => []
  | d :: ds => toPD d :: toPDs ds
end
mutual
/-- no truth value, no reference, so deep at most -/
def pdB : Nat → DV → Bool
  | _, .non => true
  | _, .int _ => true
  | _, .str x => PyData.strOk x
  | f + 1, .tup l => pdBs f l
  | _, _ => false
def pdBs : Nat → List DV → Bool
  | _, [] => true
  | f, d :: ds => pdB f d && pdBs f ds
end
theorem pdBs_iff {f : Nat} : ∀ {l : List DV}, pdBs f l = true ↔ ∀ d ∈ l, pdB f d = true
  | [] => by simp [pdBs]
  | d :: l => by
    rw [pdBs, Bool.and_eq_true, pdBs_iff (l := l)]
    simp
mutual
theorem pdB_le : ∀ {f f' : Nat} {d : DV}, f ≤ f' → pdB f d = true → pdB f' d = true
  | f, f', .non, h, k => by cases f' <;> rfl
  | f, f', .int i, h, k => by cases f' <;> rfl
  | f, f', .str x, h, k => by cases f <;> cases f' <;> simpa [pdB] using k
  | f, f', .bl b, h, k => by cases f <;> simp [pdB] at k
  | f, f', .ref n, h, k => by cases f <;> simp [pdB] at k
  | f, f', .scr n, h, k => by cases f <;> simp [pdB] at k
  | 0, f', .tup l, h, k => by simp [pdB] at k
  | f + 1, 0, .tup l, h, k => by omega
  | f + 1, f' + 1, .tup l, h, k => by rw [pdB] at k ⊢; exact pdBs_le (Nat.le_of_succ_le_succ h) k
theorem pdBs_le : ∀ {f f' : Nat} {ds : List DV}, f ≤ f' → pdBs f ds = true → pdBs f' ds = true
  | f, f', [], h, k => by rw [pdBs]
  | f, f', d :: ds, h, k => by
    rw [pdBs, Bool.and_eq_true] at k ⊢
    exact ⟨pdB_le h k.1, pdBs_le h k.2⟩
end
mutual
theorem data_pd : ∀ {f : Nat} {d : DV}, pdB f d = true → dData S f d = some (toPD d)
  | 0, .non, k => rfl
  | 0, .int i, k => rfl
  | 0, .str x, k => rfl
  | f + 1, .non, k => rfl
  | f + 1, .int i, k => rfl
  | f + 1, .str x, k => rfl
  | f, .bl b, k => by cases f <;> simp [pdB] at k
  | f, .ref n, k => by cases f <;> simp [pdB] at k
  | f, .scr n, k => by cases f <;> simp [pdB] at k
  | 0, .tup l, k => by simp [pdB] at k
  | f + 1, .tup l, k => by
    rw [pdB] at k
    rw [dData, datas_pd k]
    rfl
theorem datas_pd : ∀ {f : Nat} {ds : List DV}, pdBs f ds = true → mapO (dData S f) ds = some (toPDs ds)
  | f, [], k => rfl
  | f, d :: ds, k => by
    rw [pdBs, Bool.and_eq_true] at k
    rw [mapO, data_pd k.1, datas_pd k.2]
    rfl
end
mutual
theorem depth_pd : ∀ {f : Nat} {d : DV}, pdB f d = true → (toPD d).depth ≤ f
  | f, .non, k => Nat.zero_le _
  | f, .int i, k => Nat.zero_le _
  | f, .str x, k => Nat.zero_le _
  | f, .bl b, k => by cases f <;> simp [pdB] at k
  | f, .ref n, k => by cases f <;> simp [pdB] at k
  | f, .scr n, k => by cases f <;> simp [pdB] at k
  | 0, .tup l, k => by simp [pdB] at k
  | f + 1, .tup l, k => by
    rw [pdB] at k
    rw [toPD, PyData.depth]
    exact Nat.succ_le_succ (depths_pd k)
theorem depths_pd : ∀ {f : Nat} {ds : List DV}, pdBs f ds = true → PyData.depthAll (toPDs ds) ≤ f
  | f, [], k => Nat.zero_le _
  | f, d :: ds, k => by
    rw [pdBs, Bool.and_eq_true] at k
    rw [toPDs, PyData.depthAll]
    exact Nat.max_le.mpr ⟨depth_pd k.1, depths_pd k.2⟩
end
mutual
theorem lay_pd : ∀ {f : Nat} {d : DV}, pdB f d = true → (toPD d).canLay0 = true
  | f, .non, k => rfl
  | f, .int i, k => rfl
  | f, .str x, k => by cases f <;> simpa [pdB, toPD, PyData.canLay0] using k
  | f, .bl b, k => by cases f <;> simp [pdB] at k
  | f, .ref n, k => by cases f <;> simp [pdB] at k
  | f, .scr n, k => by cases f <;> simp [pdB] at k
  | 0, .tup l, k => by simp [pdB] at k
  | f + 1, .tup l, k => by
    rw [pdB] at k
    rw [toPD, PyData.canLay0]
    exact lays_pd k
theorem lays_pd : ∀ {f : Nat} {ds : List DV}, pdBs f ds = true → PyData.canLayAll0 (toPDs ds) = true
  | f, [], k => rfl
  | f, d :: ds, k => by
    rw [pdBs, Bool.and_eq_true] at k
    rw [toPDs, PyData.canLayAll0, lay_pd k.1, lays_pd k.2]
    rfl
end
theorem shaped_pd {f : Nat} {d : DV} (hf : f ≤ 64) (k : pdB f d = true) : SeqAt.shaped (toPD d) = true := by
  unfold SeqAt.shaped
  rw [lay_pd k, Bool.true_and]
  exact decide_eq_true (Nat.le_trans (depth_pd k) hf)
mutual
theorem eqv_pd : ∀ {f g : Nat} {x y : DV}, pdB f x = true → pdB g y = true → PyData.eqv (toPD x) (toPD y) = decide (x = y)
  | f, g, .bl b, y, k, _ => by cases f <;> simp [pdB] at k
  | f, g, .ref b, y, k, _ => by cases f <;> simp [pdB] at k
  | f, g, .scr b, y, k, _ => by cases f <;> simp [pdB] at k
  | f, g, x, .bl b, _, k => by cases g <;> simp [pdB] at k
  | f, g, x, .ref b, _, k => by cases g <;> simp [pdB] at k
  | f, g, x, .scr b, _, k => by cases g <;> simp [pdB] at k
  | f, g, .non, .non, _, _ => by simp [toPD, PyData.eqv]
  | f, g, .non, .int _, _, _ => by simp [toPD, PyData.eqv]
  | f, g, .non, .str _, _, _ => by simp [toPD, PyData.eqv]
  | f, g, .non, .tup _, _, _ => by simp [toPD, PyData.eqv]
  | f, g, .int _, .non, _, _ => by simp [toPD, PyData.eqv]
  | f, g, .int _, .int _, _, _ => by simp [toPD, PyData.eqv]; rfl
  | f, g, .int _, .str _, _, _ => by simp [toPD, PyData.eqv]
  | f, g, .int _, .tup _, _, _ => by simp [toPD, PyData.eqv]
  | f, g, .str _, .non, _, _ => by simp [toPD, PyData.eqv]
  | f, g, .str _, .int _, _, _ => by simp [toPD, PyData.eqv]
  | f, g, .str _, .str _, _, _ => by simp [toPD, PyData.eqv]; rfl
  | f, g, .str _, .tup _, _, _ => by simp [toPD, PyData.eqv]
  | f, g, .tup _, .non, _, _ => by simp [toPD, PyData.eqv]
  | f, g, .tup _, .int _, _, _ => by simp [toPD, PyData.eqv]
  | f, g, .tup _, .str _, _, _ => by simp [toPD, PyData.eqv]
  | 0, g, .tup _, .tup _, k, _ => by simp [pdB] at k
  | f + 1, 0, .tup _, .tup _, _, k => by simp [pdB] at k
  | f + 1, g + 1, .tup l, .tup m, k, k' => by
    rw [pdB] at k k'
    rw [toPD, toPD, PyData.eqv, eqvs_pd k k']
    simp
theorem eqvs_pd : ∀ {f g : Nat} {xs ys : List DV}, pdBs f xs = true → pdBs g ys = true → PyData.eqvAll (toPDs xs) (toPDs ys) = decide (xs = ys)
  | f, g, [], [], _, _ => by simp [toPDs, PyData.eqvAll]
  | f, g, [], y :: ys, _, _ => by simp [toPDs, PyData.eqvAll]
  | f, g, x :: xs, [], _, _ => by simp [toPDs, PyData.eqvAll]
  | f, g, x :: xs, y :: ys, k, k' => by
    rw [pdBs, Bool.and_eq_true] at k k'
    rw [toPDs, toPDs, PyData.eqvAll, eqv_pd k.1 k'.1, eqvs_pd k.2 k'.2]
    simp
end
theorem eqF_pd {x y : DV} (hx : pdB 12 x = true) (hy : pdB 12 y = true) (fx : flatD x = true) (fy : flatD y = true) : eqF x y = decide (x = y) := by
  cases x <;> cases y <;> simp [pdB, flatD, eqF] at * <;> first | rfl | exact Bool.eq_iff_iff.mpr (by simp)
theorem eqS_pd {x y : DV} (hx : pdB 12 x = true) (hy : pdB 12 y = true) : eqS S x y = some (decide (x = y)) := by
  unfold eqS
  split
  · rename_i h
    rw [Bool.and_eq_true] at h
    rw [eqF_pd hx hy h.1 h.2]
  · rw [data_pd hx, data_pd hy]
    dsimp only
    rw [shaped_pd (by decide) hx, shaped_pd (by decide) hy, Bool.and_true, if_pos rfl, eqv_pd hx hy]
theorem eq_pd {neg : Bool} {x y : DV} (hx : pdB 12 x = true) (hy : pdB 12 y = true) : oEq neg x y S = .ok (.bl (neg ^^ decide (x = y))) S := by
  unfold oEq
  rw [eqS_pd hx hy]
theorem isIns_pd {f : Nat} {x : DV} (hx : pdB f x = true) : isIns S x = false := by
  cases x with
  | ref n => cases f <;> simp [pdB] at hx
  | _ => rfl
theorem eqf_pd {mt : Str → Str → Option DFn} {nf : Str → TyN → Bool} {ic : Str → Bool} {x y : DV} (hx : pdB 12 x = true) (hy : pdB 12 y = true) : oEqF mt nf ic x y S = .ok (.bl (decide (x = y))) S := by
  unfold oEqF
  rw [isIns_pd hx, if_neg Bool.false_ne_true, eq_pd hx hy, Bool.false_xor]
theorem any_pd {x : DV} (hx : pdB 12 x = true) : ∀ {l : List DV}, pdBs 12 l = true → (toPDs l).any (fun z => PyData.eqv z (toPD x)) = decide (x ∈ l)
  | [], _ => by simp [toPDs]
  | d :: l, k => by
    rw [pdBs, Bool.and_eq_true] at k
    rw [toPDs, List.any_cons, eqv_pd k.1 hx, any_pd hx k.2]
    simp only [List.mem_cons, Bool.decide_or]
    congr 1
    exact decide_eq_decide.mpr ⟨Eq.symm, Eq.symm⟩
theorem anyF_pd {x : DV} (hx : pdB 12 x = true) (fx : flatD x = true) : ∀ {l : List DV}, pdBs 12 l = true → l.all flatD = true → l.any (fun z => eqF z x) = decide (x ∈ l)
  | [], _, _ => by simp
  | d :: l, k, a => by
    rw [pdBs, Bool.and_eq_true] at k
    rw [List.all_cons, Bool.and_eq_true] at a
    rw [List.any_cons, eqF_pd k.1 hx a.1 fx, anyF_pd hx fx k.2 a.2]
    simp only [List.mem_cons, Bool.decide_or]
    congr 1
    exact decide_eq_decide.mpr ⟨Eq.symm, Eq.symm⟩
theorem inS_tup {x : DV} {l : List DV} (hx : pdB 12 x = true) (hl : pdBs 12 l = true) : inS S x (.tup l) = some (decide (x ∈ l)) := by
  show (if (flatD x && l.all flatD) = true then some (l.any fun z => eqF z x) else _) = _
  split
  · rename_i h
    rw [Bool.and_eq_true] at h
    rw [anyF_pd hx h.1 hl h.2]
  · rw [data_pd hx, data_pd (f := 13) (d := .tup l) (by rw [pdB]; exact hl), toPD]
    dsimp only
    rw [shaped_pd (by decide) hx, show SeqAt.shaped (.tuple (toPDs l)) = true from shaped_pd (f := 13) (d := .tup l) (by decide) (by rw [pdB]; exact hl), Bool.and_true, if_pos rfl, any_pd hx hl]
theorem inS_lst {x : DV} {n : Nat} {l : List DV} (hn : S[n]? = some (.lst l)) (hx : pdB 12 x = true) (hl : pdBs 12 l = true) : inS S x (.ref n) = some (decide (x ∈ l)) := by
  have hi : itemsOf S (.ref n) = some l := by rw [items_r, hn]; rfl
  show (match itemsOf S (.ref n) with | some l => if (flatD x && l.all flatD) = true then some (l.any fun z => eqF z x) else _ | none => none) = _
  rw [hi]
  dsimp only
  split
  · rename_i h
    rw [Bool.and_eq_true] at h
    rw [anyF_pd hx h.1 hl h.2]
  · have e : dData S 13 (.ref n) = some (.list (toPDs l)) := by
      rw [dData, hn]
      dsimp only
      rw [datas_pd hl]
      rfl
    have hs : SeqAt.shaped (.list (toPDs l)) = true := by
      unfold SeqAt.shaped
      rw [show PyData.canLay0 (.list (toPDs l)) = PyData.canLayAll0 (toPDs l) from rfl, lays_pd hl, Bool.true_and]
      exact decide_eq_true (by rw [PyData.depth]; have := depths_pd hl; omega)
    rw [data_pd hx, e]
    dsimp only
    rw [shaped_pd (by decide) hx, hs, Bool.and_true, if_pos rfl, any_pd hx hl]
theorem in_tup {neg : Bool} {x : DV} {l : List DV} (hx : pdB 12 x = true) (hl : pdBs 12 l = true) : oInA neg x (.tup l) S = .ok (.bl (neg ^^ decide (x ∈ l))) S := by
  show oIn neg x (.tup l) S = _
  unfold oIn
  rw [inS_tup hx hl]
theorem in_lst {neg : Bool} {x : DV} {n : Nat} {l : List DV} (hn : S[n]? = some (.lst l)) (hx : pdB 12 x = true) (hl : pdBs 12 l = true) : oInA neg x (.ref n) S = .ok (.bl (neg ^^ decide (x ∈ l))) S := by
  have e : oInA neg x (.ref n) S = oIn neg x (.ref n) S := by
    unfold oInA
    simp only [hn]
  rw [e]
  unfold oIn
  rw [inS_lst hn hx hl]
end
end KN
set_option maxHeartbeats 200000
namespace KN
open PySem PySem.Spec PyProof.Rows L2
section
variable {α β : Type} {Γ : DG} {S : DS}
/-! sources -/
def srcK (r : Nat) (o : Option DO) (S : DS) : DR Src := match o with
  | some (.lst l) => .ok ⟨l, .lst r l⟩ S
  | some (.dct false kvs) => .ok ⟨kvs.map (·.1), .dct r⟩ (S.set r (.dct true kvs))
  | some (.dct true kvs) => .ok ⟨kvs.map (·.1), .dct r⟩ S
  | _ => .bad
@[simp] theorem srcK_l {r : Nat} {l : List DV} : srcK r (some (.lst l)) S = .ok ⟨l, .lst r l⟩ S := Eq.trans rfl rfl
@[simp] theorem srcK_d {r : Nat} {kvs : List (DV × DV)} : srcK r (some (.dct false kvs)) S = .ok ⟨kvs.map (·.1), .dct r⟩ (S.set r (.dct true kvs)) := Eq.trans rfl rfl
@[simp] theorem srcK_dt {r : Nat} {kvs : List (DV × DV)} : srcK r (some (.dct true kvs)) S = .ok ⟨kvs.map (·.1), .dct r⟩ S := Eq.trans rfl rfl
@[simp] theorem mSrc_ap {m : EM} : mSrc m Γ S = (m Γ S).bnd srcOf := Eq.trans rfl rfl
@[simp] theorem src_t {l : List DV} : srcOf (.tup l) S = .ok ⟨l, .fix⟩ S := Eq.trans rfl rfl
@[simp] theorem src_scr {l : List Int} : srcOf (.scr l) S = .ok ⟨l.map .int, .fix⟩ S := Eq.trans rfl rfl
@[simp] theorem src_r {r : Nat} : srcOf (.ref r) S = srcK r S[r]? S := Eq.trans rfl rfl
@[simp] theorem rng_0 {lo : Int} : rngD lo 0 = [] := Eq.trans rfl rfl
@[simp] theorem rng_s {lo : Int} {n : Nat} : rngD lo (n + 1) = .int lo :: rngD (lo + 1) n := by
  unfold rngD
  rw [List.range_succ_eq_map, List.map_cons, List.map_map]
  congr 1
  · simp
  · refine List.map_congr_left fun i _ => ?_
    simp only [Function.comp, Nat.succ_eq_add_one]
    congr 1
    omega
theorem mRng1_ap {m : AM} {j : Int} {S1 : DS} (h : m Γ S = .ok [.int j] S1) (hb : -(2 ^ 62) ≤ j ∧ j < 2 ^ 62) : mRng1 m Γ S = .ok ⟨rngD 0 j.toNat, .fix⟩ S1 := by
  unfold mRng1
  rw [h]
  dsimp only [bind_ok]
  rw [if_pos hb]
def rng1K (ds : List DV) (S1 : DS) : DR Src := match ds with
  | [.int j] => if -(2 ^ 62) ≤ j ∧ j < 2 ^ 62 then .ok ⟨rngD 0 j.toNat, .fix⟩ S1 else .bad
  | _ => .bad
@[simp] theorem rng1K_i {j : Int} : rng1K [.int j] S = if -(2 ^ 62) ≤ j ∧ j < 2 ^ 62 then .ok ⟨rngD 0 j.toNat, .fix⟩ S else .bad := Eq.trans rfl rfl
theorem rng1K_n {N : Nat} (h : N ≤ 1000000) : rng1K [.int (N : Int)] S = .ok ⟨rngD 0 N, .fix⟩ S := by
  have h1 : (N : Int) ≤ 1000000 := by omega
  have h2 : (0 : Int) ≤ (N : Int) := by omega
  have b : -(2 ^ 62) ≤ (N : Int) ∧ (N : Int) < 2 ^ 62 := ⟨Int.le_trans (by decide) h2, Int.lt_of_le_of_lt h1 (by decide)⟩
  unfold rng1K
  dsimp only
  rw [if_pos b, Int.toNat_natCast]
@[simp] theorem mRng1_k {m : AM} : mRng1 m Γ S = (m Γ S).bnd rng1K := Eq.trans rfl rfl
def rng2K (ds : List DV) (S1 : DS) : DR Src := match ds with
  | [.int i, .int j] => if -(2 ^ 62) ≤ i ∧ i < 2 ^ 62 ∧ -(2 ^ 62) ≤ j ∧ j < 2 ^ 62 then .ok ⟨rngD i (j - i).toNat, .fix⟩ S1 else .bad
  | _ => .bad
@[simp] theorem rng2K_i {i j : Int} : rng2K [.int i, .int j] S = if -(2 ^ 62) ≤ i ∧ i < 2 ^ 62 ∧ -(2 ^ 62) ≤ j ∧ j < 2 ^ 62 then .ok ⟨rngD i (j - i).toNat, .fix⟩ S else .bad := Eq.trans rfl rfl
@[simp] theorem mRng2_k {m : AM} : mRng2 m Γ S = (m Γ S).bnd rng2K := Eq.trans rfl rfl
@[simp] theorem mEnum_k {m : AM} : mEnum m Γ S = (m Γ S).bnd enumOf := Eq.trans rfl rfl
@[simp] theorem enum_t {l : List DV} : enumOf [.tup l] S = .ok ⟨enumD 0 l, .fix⟩ S := Eq.trans rfl rfl
def enumK (r : Nat) (o : Option DO) (S : DS) : DR Src := match o with
  | some (.lst l) => .ok ⟨enumD 0 l, .lst r l⟩ S
  | _ => .bad
@[simp] theorem enumK_l {r : Nat} {l : List DV} : enumK r (some (.lst l)) S = .ok ⟨enumD 0 l, .lst r l⟩ S := Eq.trans rfl rfl
@[simp] theorem enum_r {r : Nat} : enumOf [.ref r] S = enumK r S[r]? S := Eq.trans rfl rfl
@[simp] theorem enumD_n {i : Nat} : enumD i [] = [] := Eq.trans rfl rfl
@[simp] theorem enumD_c {i : Nat} {d : DV} {l : List DV} : enumD i (d :: l) = .tup [.int i, d] :: enumD (i + 1) l := Eq.trans rfl rfl
/-! targets -/
@[simp] theorem gSet_ap {i : Nat} {d : DV} : gSet i d Γ S = .ok (Γ.set i (some d)) S := Eq.trans rfl rfl
@[simp] theorem gNil_ap : gNilD [] Γ S = .ok Γ S := Eq.trans rfl rfl
@[simp] theorem gCons_ap {g : GM} {h : GsM} {d : DV} {r : List DV} : gConsD g h (d :: r) Γ S = (g d Γ S).bnd fun Γ1 S1 => h r Γ1 S1 := Eq.trans rfl rfl
@[simp] theorem gTup_ap {n : Nat} {h : GsM} {l : List DV} : gTupD n h (.tup l) Γ S = if l.length = n then h l Γ S else .bad := Eq.trans rfl rfl
@[simp] theorem mAsg_ap {m : EM} {g : GM} : mAsg m g Γ S = (m Γ S).bnd fun d S1 => (g d Γ S1).bnd fun Γ' S2 => .ok (.nx, Γ') S2 := Eq.trans rfl rfl
/-! comprehensions -/
@[simp] theorem chk_fix : SrcK.fix.chk S = true := Eq.trans rfl rfl
@[simp] theorem chk_dct {r : Nat} : (SrcK.dct r).chk S = true := Eq.trans rfl rfl
def chkK (o : Option DO) (l : List DV) : Bool := match o with
  | some (.lst l') => decide (l' = l)
  | _ => false
@[simp] theorem chkK_l {l : List DV} : chkK (some (.lst l)) l = true := by simp [chkK]
@[simp] theorem chk_lst {r : Nat} {l : List DV} : (SrcK.lst r l).chk S = chkK S[r]? l := Eq.trans rfl rfl
@[simp] theorem noExc_ok {a : α} : noExc (.ok a S) = .ok a S := Eq.trans rfl rfl
def appK (n : Nat) (d : DV) (o : Option DO) (S : DS) : DR Unit := match o with
  | some (.lst l) => if l.length < sizeLine then .ok () (S.set n (.lst (l ++ [d]))) else .bad
  | _ => .bad
@[simp] theorem appK_l {n : Nat} {d : DV} {l : List DV} : appK n d (some (.lst l)) S = if l.length < sizeLine then .ok () (S.set n (.lst (l ++ [d]))) else .bad := Eq.trans rfl rfl
@[simp] theorem appD_ap {n : Nat} {d : DV} : appD n d S = appK n d S[n]? S := Eq.trans rfl rfl
@[simp] theorem lcL_nil {n : Nat} {tg : GM} {t : TM} {e : EM} {k : SrcK} {Γ0 : DG} : lcL n tg t e k Γ0 [] S = if k.chk S = true then .ok () S else .bad := Eq.trans rfl rfl
@[simp] theorem lcL_cons {n : Nat} {tg : GM} {t : TM} {e : EM} {k : SrcK} {Γ0 : DG} {x : DV} {xs : List DV} : lcL n tg t e k Γ0 (x :: xs) S = if k.chk S = true then (noExc (tg x Γ0 S)).bnd fun Γ1 S1 => (noExc (t Γ1 S1)).bnd fun c S2 =>
      if c = true then (noExc (e Γ1 S2)).bnd fun d S3 => (appD n d S3).bnd fun _ S4 => lcL n tg t e k Γ0 xs S4 else lcL n tg t e k Γ0 xs S2
    else .bad := rfl
def unlK (S S2 : DS) (e : α) (n : Nat) : DR α := match S[n]? with
    | some (.dct false _) => match S2[n]? with
      | some (.dct true kvs) => .ok e (S2.set n (.dct false kvs))
      | _ => .bad
    | _ => .ok e S2
@[simp] theorem unlR_dct {S2 : DS} {e : α} {n : Nat} : unlR S (.ok (e, .dct n) S2) = unlK S S2 e n := Eq.trans rfl rfl
@[simp] theorem unlR_fix {S2 : DS} {e : α} : unlR S (.ok (e, .fix) S2) = .ok e S2 := Eq.trans rfl rfl
@[simp] theorem unlR_lst {S2 : DS} {e : α} {r : Nat} {l : List DV} : unlR S (.ok (e, .lst r l) S2) = .ok e S2 := Eq.trans rfl rfl
@[simp] theorem unlR_exc {S2 : DS} {c : Str} {fs : List (Str × DV)} : unlR S (.exc c fs S2 : DR (α × SrcK)) = .exc c fs S2 := Eq.trans rfl rfl
@[simp] theorem wipe_n : wipeD Γ [] = Γ := Eq.trans rfl rfl
@[simp] theorem wipe_c {v : Nat} {vs : List Nat} : wipeD Γ (v :: vs) = (wipeD Γ vs).set v none := Eq.trans rfl rfl
@[simp] theorem mLc_ap {m : IM} {own : List Nat} {tg : GM} {t : TM} {e : EM} : mLc m own tg t e Γ S = unlR S ((m Γ S).bnd fun src S1 => (lcL S1.length tg t e src.k (wipeD Γ own) src.items (S1 ++ [.lst []])).bnd fun _ S2 => .ok (.ref S1.length, src.k) S2) := Eq.trans rfl rfl
@[simp] theorem mYes_ap : mYes Γ S = .ok true S := Eq.trans rfl rfl
/-- one item -/
def lcS (tg : GM) (t : TM) (e : EM) (Γ0 : DG) (x : DV) : DM (Option DV) := fun S => (noExc (tg x Γ0 S)).bnd fun Γ1 S1 => (noExc (t Γ1 S1)).bnd fun c S2 => if c = true then (noExc (e Γ1 S2)).bnd fun d S3 => .ok (some d) S3 else .ok none S2
def addO (n : Nat) (acc : List DV) (o : Option DV) (S' : DS) : DS := match o with
  | some d => S'.set n (.lst (acc ++ [d]))
  | none => S'
theorem lc_step {n : Nat} {tg : GM} {t : TM} {e : EM} {k : SrcK} {Γ0 : DG} {x : DV} {xs : List DV} {o : Option DV} {S' : DS} {acc : List DV} (hk : k.chk S = true) (h : lcS tg t e Γ0 x S = .ok o S') (hn : S'[n]? = some (.lst acc)) (hl : acc.length < sizeLine) :
    lcL n tg t e k Γ0 (x :: xs) S = lcL n tg t e k Γ0 xs (addO n acc o S') := by
  unfold lcS at h
  rw [lcL_cons, if_pos hk]
  cases h1 : noExc (tg x Γ0 S) with
  | ok Γ1 S1 =>
    rw [h1] at h
    simp only [bok] at h ⊢
    cases h2 : noExc (t Γ1 S1) with
    | ok c S2 =>
      rw [h2] at h
      simp only [bok] at h ⊢
      cases c with
      | true =>
        rw [if_pos rfl] at h ⊢
        cases h3 : noExc (e Γ1 S2) with
        | ok d S3 =>
          rw [h3] at h
          simp only [bok] at h ⊢
          cases h
          rw [appD_ap, hn, appK_l, if_pos hl, bok]
          rfl
        | exc c fs s => rw [h3, bexc] at h; cases h
        | bad => rw [h3, bbad] at h; cases h
      | false =>
        rw [if_neg Bool.false_ne_true] at h ⊢
        cases h
        rfl
    | exc c fs s => rw [h2, bexc] at h; cases h
    | bad => rw [h2, bbad] at h; cases h
  | exc c fs s => rw [h1, bexc] at h; cases h
  | bad => rw [h1, bbad] at h; cases h
/-- items that leave the store but for what is new behind it -/
theorem lc_junk {tg : GM} {t : TM} {e : EM} {k : SrcK} {Γ0 : DG} {f : DV → Option DV} : ∀ {xs : List DV} {acc : List DV} {J : DS}, (∀ acc J, k.chk (S ++ .lst acc :: J) = true) → acc.length + xs.length ≤ sizeLine →
    (∀ x ∈ xs, ∀ acc J, ∃ J', lcS tg t e Γ0 x (S ++ .lst acc :: J) = .ok (f x) (S ++ .lst acc :: J')) → ∃ J', lcL S.length tg t e k Γ0 xs (S ++ .lst acc :: J) = .ok () (S ++ .lst (acc ++ xs.filterMap f) :: J')
  | [], acc, J, hk, _, _ => ⟨J, by rw [lcL_nil, if_pos (hk acc J)]; simp⟩
  | x :: xs, acc, J, hk, hl, h => by
    obtain ⟨J1, e1⟩ := h x (List.mem_cons_self ..) acc J
    rw [List.length_cons] at hl
    rw [lc_step (acc := acc) (hk acc J) e1 (by simp) (by omega)]
    cases hf : f x with
    | none =>
      obtain ⟨J2, e2⟩ := lc_junk (acc := acc) (J := J1) hk (by omega) fun y hy => h y (List.mem_cons_of_mem _ hy)
      exact ⟨J2, by rw [addO, e2, List.filterMap_cons_none hf]⟩
    | some d =>
      obtain ⟨J2, e2⟩ := lc_junk (acc := acc ++ [d]) (J := J1) hk (by simp; omega) fun y hy => h y (List.mem_cons_of_mem _ hy)
      refine ⟨J2, ?_⟩
      rw [addO, set_off0, List.set_cons_zero, e2, List.filterMap_cons_some hf]
      simp
/-- items that leave the store as it is -/
theorem lc_pure {tg : GM} {t : TM} {e : EM} {k : SrcK} {Γ0 : DG} {f : DV → Option DV} : ∀ {xs : List DV} {acc : List DV}, (∀ acc, k.chk (S ++ [.lst acc]) = true) → acc.length + xs.length ≤ sizeLine →
    (∀ x ∈ xs, ∀ acc, lcS tg t e Γ0 x (S ++ [.lst acc]) = .ok (f x) (S ++ [.lst acc])) → lcL S.length tg t e k Γ0 xs (S ++ [.lst acc]) = .ok () (S ++ [.lst (acc ++ xs.filterMap f)])
  | [], acc, hk, _, _ => by rw [lcL_nil, if_pos (hk acc)]; simp
  | x :: xs, acc, hk, hl, h => by
    rw [List.length_cons] at hl
    rw [lc_step (acc := acc) (hk acc) (h x (List.mem_cons_self ..) acc) (by simp) (by omega)]
    cases hf : f x with
    | none =>
      rw [addO, lc_pure hk (by omega) fun y hy => h y (List.mem_cons_of_mem _ hy), List.filterMap_cons_none hf]
    | some d =>
      rw [addO, set_off0, List.set_cons_zero, lc_pure hk (by simp; omega) fun y hy => h y (List.mem_cons_of_mem _ hy), List.filterMap_cons_some hf]
      simp
/-! loops -/
@[simp] theorem runL_nil {tg : GM} {b : SM} {k : SrcK} : runL tg b k [] Γ S = if k.chk S = true then .ok (.nx, Γ) S else .bad := Eq.trans rfl rfl
def loopK (nxt : SM) (r : DF × DG) (S2 : DS) : DR (DF × DG) := match r.1 with
  | .nx => nxt r.2 S2
  | .ct => nxt r.2 S2
  | .bk => .ok (.nx, r.2) S2
  | .rt d => .ok (.rt d, r.2) S2
@[simp] theorem loopK_nx {nxt : SM} : loopK nxt (.nx, Γ) S = nxt Γ S := Eq.trans rfl rfl
@[simp] theorem loopK_rt {nxt : SM} {d : DV} : loopK nxt (.rt d, Γ) S = .ok (.rt d, Γ) S := Eq.trans rfl rfl
@[simp] theorem runL_cons {tg : GM} {b : SM} {k : SrcK} {x : DV} {xs : List DV} : runL tg b k (x :: xs) Γ S = if k.chk S = true then (tg x Γ S).bnd fun Γ1 S1 => (b Γ1 S1).bnd (loopK (runL tg b k xs)) else .bad := Eq.trans rfl rfl
@[simp] theorem mFor_ap {m : IM} {tg : GM} {b : SM} : mFor m tg b Γ S = unlR S ((m Γ S).bnd fun src S1 => (runL tg b src.k src.items Γ S1).bnd fun e S2 => .ok (e, src.k) S2) := Eq.trans rfl rfl
theorem mWhile_s {t : TM} {b : SM} {n : Nat} : mWhile t b (n + 1) Γ S = (t Γ S).bnd fun c S1 => if c = true then (b Γ S1).bnd (loopK (mWhile t b n)) else .ok (.nx, Γ) S1 := rfl
/-! writing -/
def setIxK (n : Nat) (y v : DV) (o : Option DO) (S : DS) : DR Unit := match o with
  | some (.lst l) => match y with
      | .int i => match ixN l.length i with
        | some j => .ok () (S.set n (.lst (l.set j v)))
        | none => .bad
      | _ => .bad
  | some (.dct false kvs) => if (leafK kvs y || tupK kvs y) && decide (kvs.length < sizeLine) then .ok () (S.set n (.dct false (dPut kvs y v))) else .bad
  | _ => .bad
theorem setIxK_l {n j : Nat} {v : DV} {l : List DV} {i : Int} (h : i = j) (hj : j < l.length) : setIxK n (.int i) v (some (.lst l)) S = .ok () (S.set n (.lst (l.set j v))) := by
  subst h
  unfold setIxK ixN
  simp [hj]
theorem setIxK_d {n : Nat} {y v : DV} {kvs : List (DV × DV)} (h : (leafK kvs y || tupK kvs y) = true) (hz : kvs.length < sizeLine) : setIxK n y v (some (.dct false kvs)) S = .ok () (S.set n (.dct false (dPut kvs y v))) := by
  unfold setIxK
  dsimp only
  rw [h, Bool.true_and, if_pos (decide_eq_true hz)]
@[simp] theorem setIxK_0 {n : Nat} {v x : DV} {l : List DV} : setIxK n (.int 0) v (some (.lst (x :: l))) S = .ok () (S.set n (.lst (v :: l))) := setIxK_l (j := 0) rfl (by simp)
@[simp] theorem setIxK_1 {n : Nat} {v x y : DV} {l : List DV} : setIxK n (.int 1) v (some (.lst (x :: y :: l))) S = .ok () (S.set n (.lst (x :: v :: l))) := setIxK_l (j := 1) rfl (by simp)
@[simp] theorem setIxK_2 {n : Nat} {v x y z : DV} {l : List DV} : setIxK n (.int 2) v (some (.lst (x :: y :: z :: l))) S = .ok () (S.set n (.lst (x :: y :: v :: l))) := setIxK_l (j := 2) rfl (by simp)
@[simp] theorem setIx_r {n : Nat} {y v : DV} : oSetIx (.ref n) y v S = setIxK n y v S[n]? S := by
  cases h : S[n]? with
  | none => simp only [oSetIx, h] <;> rfl
  | some o =>
    cases o with
    | lst l => simp only [oSetIx, h] <;> (cases y <;> rfl)
    | dct b kvs => cases b <;> (simp only [oSetIx, h] <;> rfl)
    | ins c fs => simp only [oSetIx, h] <;> rfl
@[simp] theorem mSetIx_ap {v o i : EM} : mSetIx v o i Γ S = (v Γ S).bnd fun d S1 => (o Γ S1).bnd fun x S2 => (i Γ S2).bnd fun y S3 => (oSetIx x y d S3).bnd fun _ S4 => .ok (.nx, Γ) S4 := Eq.trans rfl rfl
@[simp] theorem mDelIx_ap {o i : EM} : mDelIx o i Γ S = (o Γ S).bnd fun x S2 => (i Γ S2).bnd fun y S3 => (oDelIx x y S3).bnd fun _ S4 => .ok (.nx, Γ) S4 := Eq.trans rfl rfl
def delIxK (n : Nat) (y : DV) (o : Option DO) (S : DS) : DR Unit := match o with
  | some (.dct false kvs) => if (leafK kvs y || tupK kvs y) && (dFind kvs y).isSome then .ok () (S.set n (.dct false (dDrop kvs y))) else .bad
  | _ => .bad
@[simp] theorem delIx_r {n : Nat} {y : DV} : oDelIx (.ref n) y S = delIxK n y S[n]? S := by
  cases h : S[n]? with
  | none => simp only [oDelIx, h] <;> rfl
  | some o =>
    cases o with
    | dct b kvs => cases b <;> (simp only [oDelIx, h] <;> rfl)
    | _ => simp only [oDelIx, h] <;> rfl
@[simp] theorem inc_i {a b : Int} : oInc (.int a) (.int b) S = .ok (.int (a + b)) S := Eq.trans rfl rfl
def augK (i : Nat) (m : EM) (Γ : DG) (o : Option (Option DV)) (S : DS) : DR (DF × DG) := match o with
  | some (some d) => (m Γ S).bnd fun e S1 => (oInc d e S1).bnd fun z S2 => .ok (.nx, Γ.set i (some z)) S2
  | _ => .bad
@[simp] theorem augK_s {i : Nat} {m : EM} {d : DV} : augK i m Γ (some (some d)) S = (m Γ S).bnd fun e S1 => (oInc d e S1).bnd fun z S2 => .ok (.nx, Γ.set i (some z)) S2 := Eq.trans rfl rfl
@[simp] theorem mAug_ap {i : Nat} {m : EM} : mAug i m Γ S = augK i m Γ Γ[i]? S := Eq.trans rfl rfl
/-! exceptions -/
@[simp] theorem mRaise_ap {c : Str} {fl : List Str} {m : AM} : mRaise c fl m Γ S = (m Γ S).bnd fun ds S1 => if ds.length = fl.length then .exc c ((fl.zip ds).reverse) S1 else .bad := Eq.trans rfl rfl
def tryK (isx : Str → Str → Option Bool) (hs : List (Str × Option Nat × Su)) (Γ : DG) (r : DR (DF × DG)) : DR (DF × DG) := match r with
  | .exc c fs S1 => mHs isx c fs hs Γ S1
  | r => r
@[simp] theorem tryK_ok {isx : Str → Str → Option Bool} {hs : List (Str × Option Nat × Su)} {r : DF × DG} : tryK isx hs Γ (.ok r S) = .ok r S := Eq.trans rfl rfl
@[simp] theorem tryK_exc {isx : Str → Str → Option Bool} {hs : List (Str × Option Nat × Su)} {c : Str} {fs : List (Str × DV)} : tryK isx hs Γ (.exc c fs S) = mHs isx c fs hs Γ S := Eq.trans rfl rfl
@[simp] theorem mTry_ap {isx : Str → Str → Option Bool} {hs : List (Str × Option Nat × Su)} {m : SM} : mTry isx m hs Γ S = tryK isx hs Γ (m Γ S) := by
  unfold mTry tryK
  rfl
def excL : List String := ["PointError", "InvalidRule", "InvalidHistory", "InvalidDeed", "UnknownPart", "InvalidWord", "NotRight", "BadKinds", "UnknownKind", "UnknownThing", "BadNumber", "BadName", "BadRow", "UnknownRow", "BadDeed", "InvalidLine"]
@[simp] theorem isx_ap {a b : String} : isxF CWP (Str.ofString a) (Str.ofString b) = if a ∈ excL ∧ b ∈ excL then some (decide (a = b) || decide (b = "PointError")) else none := by
  have h : ∀ x : String, (Str.ofString x ∈ CWP.exc) = (x ∈ excL) := fun x => by
    have e : CWP.exc = excL.map Str.ofString := by rfl
    rw [e]
    refine propext ⟨fun h => ?_, fun h => List.mem_map_of_mem h⟩
    obtain ⟨y, hy, e⟩ := List.mem_map.mp h
    rw [str_inj] at e
    rw [← e]
    exact hy
  simp only [isxF, h, str_inj, show CWP.root = Str.ofString "PointError" from rfl]
def hsK (isx : Str → Str → Option Bool) (c : Str) (fs : List (Str × DV)) (x : Str) (oi : Option Nat) (su : Su) (r : List (Str × Option Nat × Su)) (Γ : DG) (o : Option Bool) (S : DS) : DR (DF × DG) := match o with
  | some true => (suM x c fs su (unset oi Γ) S).bnd fun r S2 => match r.1 with
      | .nx => .ok (.nx, unset oi r.2) S2
      | _ => .bad
  | some false => mHs isx c fs r Γ S
  | none => .bad
@[simp] theorem hsK_t {isx : Str → Str → Option Bool} {c x : Str} {fs : List (Str × DV)} {oi : Option Nat} {su : Su} {r : List (Str × Option Nat × Su)} : hsK isx c fs x oi su r Γ (some true) S = (suM x c fs su (unset oi Γ) S).bnd fun r S2 => match r.1 with
      | .nx => .ok (.nx, unset oi r.2) S2
      | _ => .bad := rfl
@[simp] theorem hsK_f {isx : Str → Str → Option Bool} {c x : Str} {fs : List (Str × DV)} {oi : Option Nat} {su : Su} {r : List (Str × Option Nat × Su)} : hsK isx c fs x oi su r Γ (some false) S = mHs isx c fs r Γ S := Eq.trans rfl rfl
@[simp] theorem mHs_nil {isx : Str → Str → Option Bool} {c : Str} {fs : List (Str × DV)} : mHs isx c fs [] Γ S = .exc c fs S := Eq.trans rfl rfl
@[simp] theorem mHs_cons {isx : Str → Str → Option Bool} {c x : Str} {fs : List (Str × DV)} {oi : Option Nat} {su : Su} {r : List (Str × Option Nat × Su)} : mHs isx c fs ((x, oi, su) :: r) Γ S = hsK isx c fs x oi su r Γ (isx c x) S := Eq.trans rfl rfl
@[simp] theorem unset_n : unset none Γ = Γ := Eq.trans rfl rfl
@[simp] theorem unset_s {i : Nat} : unset (some i) Γ = Γ.set i none := Eq.trans rfl rfl
@[simp] theorem sev_c {fs : List (Str × DV)} {d : DV} : sev fs (.cst d) = some d := Eq.trans rfl rfl
@[simp] theorem sev_f {fs : List (Str × DV)} {f : Str} : sev fs (.fld f) = fs.lookup f := Eq.trans rfl rfl
def su1K (j : Nat) (Γ : DG) (o : Option DV) (S : DS) : DR (DF × DG) := match o with
  | some d => .ok (.nx, Γ.set j (some d)) S
  | none => .bad
@[simp] theorem su1K_s {j : Nat} {d : DV} : su1K j Γ (some d) S = .ok (.nx, Γ.set j (some d)) S := Eq.trans rfl rfl
@[simp] theorem suM_1 {x c : Str} {fs : List (Str × DV)} {j : Nat} {e : SE} : suM x c fs (.one j e) Γ S = if c = x then su1K j Γ (sev fs e) S else .bad := Eq.trans rfl rfl
def su2K (j : Nat) (Γ : DG) (o : Option (List DV)) (S : DS) : DR (DF × DG) := match o with
  | some ds => if ds.length ≤ sizeLine then .ok (.nx, Γ.set j (some (.tup ds))) S else .bad
  | none => .bad
@[simp] theorem su2K_s {j : Nat} {ds : List DV} : su2K j Γ (some ds) S = if ds.length ≤ sizeLine then .ok (.nx, Γ.set j (some (.tup ds))) S else .bad := Eq.trans rfl rfl
@[simp] theorem suM_2 {x c : Str} {fs : List (Str × DV)} {j : Nat} {es : List SE} : suM x c fs (.tup j es) Γ S = if c = x then su2K j Γ (sevs fs es) S else .bad := Eq.trans rfl rfl
@[simp] theorem sevs_n {fs : List (Str × DV)} : sevs fs [] = some [] := Eq.trans rfl rfl
theorem sevs_c {fs : List (Str × DV)} {e : SE} {r : List SE} : sevs fs (e :: r) = (sev fs e).bind fun d => (sevs fs r).map (d :: ·) := by
  rw [sevs]
  cases sev fs e <;> cases sevs fs r <;> rfl
@[simp] theorem gFld_ap {fl : Str → Str → Bool} {f : Str} {o : EM} {d : DV} : gFld fl f o d Γ S = (o Γ S).bnd fun x S1 => (oSetF fl f x d S1).bnd fun _ S2 => .ok Γ S2 := Eq.trans rfl rfl
@[simp] theorem parK_2 {i j : Nat} {d e : DV} : parK i j [d, e] Γ S = .ok (.nx, (Γ.set i (some d)).set j (some e)) S := Eq.trans rfl rfl
@[simp] theorem mPar_ap {i j : Nat} {m : AM} : mPar i j m Γ S = (m Γ S).bnd fun ds S1 => parK i j ds Γ S1 := Eq.trans rfl rfl
end
end KN
set_option maxHeartbeats 200000
namespace KN
open PySem PySem.Spec PyProof.Rows L2
section
variable {S : DS}
/-! ### the source of numbers -/
def rnd (a b : Int) (l : List Int) : DO := .lst (.int a :: .int b :: l.map .int)
def RndOk (o : DO) : Prop := ∃ a b l, o = rnd a b l ∧ 0 ≤ a ∧ 0 ≤ b ∧ ∀ x ∈ l, 0 ≤ x
@[simp] theorem set_set' {n : Nat} {a b : DO} : (S.set n a).set n b = S.set n b := List.set_set ..
theorem get_set' {n : Nat} {a : DO} (h : n < S.length) : (S.set n a)[n]? = some a := by simp [h]
theorem pop2 {n : Nat} {x y z : DV} {l : List DV} (h : S[n]? = some (.lst (x :: y :: z :: l))) : oPopL (.ref n) [.int 2] S = .ok z (S.set n (.lst (x :: y :: l))) := by
  have e : seqIndex? 2 (x :: y :: z :: l).length = some 2 := by
    simp [seqIndex?]
    omega
  simp only [oPopL, h]
  rw [if_pos (by decide), e]
  rfl
theorem pop_last {n : Nat} {x : DV} {l : List DV} (h : S[n]? = some (.lst (l ++ [x]))) : oPopL (.ref n) [] S = .ok x (S.set n (.lst l)) := by
  simp only [oPopL, h]
  simp
@[simp] theorem bm_pop : bmP "pop" .list = some oPopL := Eq.trans (by rfl) rfl
@[simp] theorem bm_append : bmP "append" .list = some oAppend := Eq.trans (by rfl) rfl
@[simp] theorem bm_extend : bmP "extend" .list = some oExtend := Eq.trans (by rfl) rfl
@[simp] theorem bm_split : bmP "split" .str = some oSplit := Eq.trans (by rfl) rfl
@[simp] theorem bm_join : bmP "join" .str = some oJoin := Eq.trans (by rfl) rfl
@[simp] theorem eqF_i {mt : Str → Str → Option DFn} {nf : Str → TyN → Bool} {ic : Str → Bool} {a b : Int} : oEqF mt nf ic (.int a) (.int b) S = .ok (.bl (decide (a = b))) S := eqf_pd (by rfl) (by rfl) |>.trans (by simp)
@[simp] theorem int_i {i : Int} : oInt [.int i] S = .ok (.int i) S := Eq.trans rfl rfl
@[simp] theorem abs_i {i : Int} : oAbs [.int i] S = .ok (.int (if i < 0 then -i else i)) S := Eq.trans rfl rfl
@[simp] theorem int_b {b : Bool} : oInt [.bl b] S = .ok (.int (if b then 1 else 0)) S := Eq.trans rfl rfl
theorem below_ok {n : Nat} {o : DO} {k : Int} (h : S[n]? = some o) (ho : RndOk o) (hk : 0 < k) (hk2 : k < 1073741824) : ∃ r o', RndOk o' ∧ 0 ≤ r ∧ r < k ∧ b__law_below [.ref n, .int k] S = .ok (.int r) (S.set n o') := by
  obtain ⟨a, b, l, rfl, ha, hb, hl⟩ := ho
  have hn := lt_some h
  unfold rnd at h
  have two : ∀ (b : Int) (l : List Int) (S1 : DS), n < S1.length → S1[n]? = some (.lst (.int a :: .int b :: l.map .int)) → 0 ≤ b → (∀ x ∈ l, 0 ≤ x) → ∃ r o', RndOk o' ∧ 0 ≤ r ∧ r < k ∧ 
     ((mSeq
                      (mIfS
                        (mTest
                          (mBin (oCmp fun i j => decide (j < i)) (mBin oIx (mVar 0) (mCst (DV.int 1)))
                            (mCst (DV.int 0))))
                        (mSeq
                          (mSet 2 (mBin oMod (mCallB oInt (mCons (mBin oIx (mVar 0) (mCst (DV.int 1))) mNil)) (mVar 1)))
                          (mSeq
                            (mSetIx (mBin oFdiv (mBin oIx (mVar 0) (mCst (DV.int 1))) (mVar 1)) (mVar 0)
                              (mCst (DV.int 1)))
                            (mRet (mVar 2))))
                        mNext)
                      (mSeq
                        (mSetIx
                          (mBin oMod
                            (mCallB oInt
                              (mCons
                                (mBin oAdd (mBin oMul (mBin oIx (mVar 0) (mCst (DV.int 0))) (mCst (DV.int 48271)))
                                  (mCst (DV.int 11)))
                                mNil))
                            (mCst (DV.int 2147483647)))
                          (mVar 0) (mCst (DV.int 0)))
                        (mRet
                          (mBin oMod
                            (mCallB oInt
                              (mCons (mBin oFdiv (mBin oIx (mVar 0) (mCst (DV.int 0))) (mCst (DV.int 64))) mNil))
                            (mVar 1))))) [some (DV.ref n), some (DV.int k), none] S1).bnd retK = .ok (.int r) (S1.set n o') := fun b l S1 hn h hb hl => by
    by_cases c : 0 < b
    · refine ⟨b % k, rnd a (b / k) l, ⟨_, _, _, rfl, ha, Int.ediv_nonneg hb (by omega), hl⟩, Int.emod_nonneg _ (by omega), Int.emod_lt_of_pos _ hk, ?_⟩
      simp [h, c, hk, hk2, rnd]
    · refine ⟨(a * 48271 + 11) % 2147483647 / 64 % k, rnd ((a * 48271 + 11) % 2147483647) b l, ⟨_, _, _, rfl, Int.emod_nonneg _ (by omega), hb, hl⟩, Int.emod_nonneg _ (by omega), Int.emod_lt_of_pos _ hk, ?_⟩
      simp [h, c, hk, hk2, rnd, get_set' hn]
  by_cases c : b = 0 ∧ l ≠ []
  · obtain ⟨rfl, c2⟩ := c
    obtain ⟨x, l', rfl⟩ := List.exists_cons_of_ne_nil c2
    obtain ⟨r, o', h1, h2, h3, h4⟩ := two x l' (S.set n (.lst (.int a :: .int x :: l'.map .int))) (by simpa using hn) (by simp [hn]) (hl x (List.mem_cons_self ..)) fun y hy => hl y (List.mem_cons_of_mem _ hy)
    refine ⟨r, o', h1, h2, h3, ?_⟩
    rw [set_set'] at h4
    rw [← h4]
    have c3 : (2 : Int) < (l'.length : Int) + 1 + 1 + 1 := by omega
    simp only [List.map_cons] at h
    simp [b__law_below, h, c3, pop2 h, get_set' hn, -mSeq_ap]
    rw [mSeq_ap]
    simp [h, c3, pop2 h, get_set' hn, -mSeq_ap]
  · obtain ⟨r, o', h1, h2, h3, h4⟩ := two b l S hn h hb hl
    refine ⟨r, o', h1, h2, h3, ?_⟩
    rw [← h4]
    have c3 : b = 0 → ¬ (2 : Int) < (l.length : Int) + 1 + 1 := fun z => by
      have : l = [] := by simpa [z] using c
      simp [this]
    by_cases z : b = 0
    · have c4 := c3 z
      subst z
      simp [b__law_below, h, c4, -mSeq_ap]
      rw [mSeq_ap]
      simp [h, c4, -mSeq_ap]
    · simp [b__law_below, h, z, -mSeq_ap]
      rw [mSeq_ap]
      simp [h, z, -mSeq_ap]
end
end KN
set_option maxHeartbeats 200000
namespace KN
open PySem PySem.Spec PyProof.Rows L2
section
variable {S : DS}
theorem pick_ok {n m : Nat} {o : DO} {l : List DV} (h : S[n]? = some o) (ho : RndOk o) (hm : S[m]? = some (.lst l)) (hne : m ≠ n) (h0 : l ≠ []) (hl : l.length < 1073741824) : ∃ d o', d ∈ l ∧ RndOk o' ∧ b__law_pick [.ref n, .ref m] S = .ok d (S.set n o') := by
  have l0 : 0 < l.length := List.length_pos_iff.mpr h0
  obtain ⟨r, o', h1, h2, h3, h4⟩ := below_ok (k := (l.length : Int)) h ho (by omega) (by omega)
  obtain ⟨j, rfl⟩ : ∃ j : Nat, r = j := ⟨r.toNat, by omega⟩
  have hj : j < l.length := by omega
  have hm' : (S.set n o')[m]? = some (.lst l) := by rw [List.getElem?_set_ne (Ne.symm hne)]; exact hm
  refine ⟨l[j], o', List.getElem_mem hj, h1, ?_⟩
  simp [b__law_pick, hm, h4, hm', atI_n, hj]
/-- a comprehension by an invariant: what is left, what is made, the store -/
theorem lc_inv {n : Nat} {tg : GM} {t : TM} {e : EM} {k : SrcK} {Γ0 : DG} {Q : List DV → List DV → DS → Prop} (fin : ∀ acc S, Q [] acc S → k.chk S = true)
    (step : ∀ x xs acc S, Q (x :: xs) acc S → k.chk S = true ∧ ∃ o S', lcS tg t e Γ0 x S = .ok o S' ∧ S'[n]? = some (.lst acc) ∧ acc.length < sizeLine ∧ Q xs (acc ++ o.toList) (addO n acc o S')) :
    ∀ {xs acc : List DV} {S : DS}, Q xs acc S → ∃ acc' S', lcL n tg t e k Γ0 xs S = .ok () S' ∧ Q [] acc' S'
  | [], acc, S, h => ⟨acc, S, by rw [lcL_nil, if_pos (fin acc S h)], h⟩
  | x :: xs, acc, S, h => by
    obtain ⟨hk, o, S', e1, e2, e3, e4⟩ := step x xs acc S h
    rw [lc_step hk e1 e2 e3]
    exact lc_inv fin step e4
@[simp] theorem addO_s {n : Nat} {acc : List DV} {d : DV} {S' : DS} : addO n acc (some d) S' = S'.set n (.lst (acc ++ [d])) := Eq.trans rfl rfl
@[simp] theorem addO_n {n : Nat} {acc : List DV} {S' : DS} : addO n acc none S' = S' := Eq.trans rfl rfl
def sFree : Str := "free"
def sSweep : Str := "sweep"
def wCares : List Str := ["copy", "rename", "renumber", "take"]
def wWorks : List Str := ["free", "sweep"]
theorem at_set {n m : Nat} {o : DO} {l : DS} (h : n < S.length) : (S.set n o ++ l)[S.length + m]? = l[m]? := by
  have e : (S.set n o).length = S.length := by simp
  rw [← e, at_off]
theorem at_set0 {n : Nat} {o : DO} {l : DS} (h : n < S.length) : (S.set n o ++ l)[S.length]? = l[0]? := at_set (m := 0) h
theorem at_setn {n : Nat} {o : DO} {l : DS} (h : n < S.length) : (S.set n o ++ l)[n]? = some o := by
  rw [at_in (by simpa using h), get_set' h]
theorem set_setn {n : Nat} {o o' : DO} {l : DS} (h : n < S.length) : (S.set n o ++ l).set n o' = S.set n o' ++ l := by
  rw [set_in (by simpa using h), set_set']
theorem set_set0 {n : Nat} {o o' : DO} {l : DS} (h : n < S.length) : (S.set n o ++ l).set S.length o' = S.set n o ++ l.set 0 o' := by
  have e : (S.set n o).length = S.length := by simp
  rw [← e, set_off0]
theorem set_setk {n k : Nat} {o o' : DO} {l : DS} (h : n < S.length) : (S.set n o ++ l).set (S.length + k) o' = S.set n o ++ l.set k o' := by
  have e : (S.set n o).length = S.length := by simp
  rw [← e, set_off]
theorem below_at {n : Nat} {o : DO} {k : Int} {l : DS} (hn : n < S.length) (ho : RndOk o) (hk : 0 < k) (hk2 : k < 1073741824) : ∃ r o', RndOk o' ∧ 0 ≤ r ∧ r < k ∧ b__law_below [.ref n, .int k] (S.set n o ++ l) = .ok (.int r) (S.set n o' ++ l) := by
  obtain ⟨r, o', h1, h2, h3, h4⟩ := below_ok (S := S.set n o ++ l) (at_setn hn) ho hk hk2
  exact ⟨r, o', h1, h2, h3, by rw [h4, set_setn hn]⟩
theorem pick_at {n m : Nat} {o : DO} {l : DS} {xs : List DV} (hn : n < S.length) (ho : RndOk o) (hm : l[m]? = some (.lst xs)) (h0 : xs ≠ []) (hl : xs.length < 1073741824) : ∃ d o', d ∈ xs ∧ RndOk o' ∧ b__law_pick [.ref n, .ref (S.length + m)] (S.set n o ++ l) = .ok d (S.set n o' ++ l) := by
  obtain ⟨d, o', h1, h2, h3⟩ := pick_ok (S := S.set n o ++ l) (n := n) (m := S.length + m) (l := xs) (at_setn hn) ho (by rw [at_set hn]; exact hm) (by omega) h0 hl
  exact ⟨d, o', h1, h2, by rw [h3, set_setn hn]⟩
abbrev cares4 : List DV := [.str "copy", .str "rename", .str "renumber", .str "take"]
theorem draw_cares {n : Nat} {o : DO} {a b : Option DV} (hn : n < S.length) (ho : RndOk o) : ∃ (cs : List Str) (o' : DO), cs.Sublist wCares ∧ RndOk o' ∧
    lcL (S.length + 1) (gSet 6) (mTest (mBin (oEqF noT CWP.nf CWP.ic) (mCallF b__law_below [] (mCons (mVar 0) (mCons (mCst (.int 2)) mNil))) (mCst (.int 0)))) (mVar 6) (.lst S.length cares4) [some (.ref n), a, b, none, none, none, none, none] cares4 (S.set n o ++ [.lst cares4, .lst []]) =
      .ok () (S.set n o' ++ [.lst cares4, .lst (cs.map .str)]) := by
  obtain ⟨acc, S', e, cs, ds, ys, o', h1, h2, h3, h4, h5, h6⟩ := lc_inv (n := S.length + 1) (tg := gSet 6) (t := mTest (mBin (oEqF noT CWP.nf CWP.ic) (mCallF b__law_below [] (mCons (mVar 0) (mCons (mCst (.int 2)) mNil))) (mCst (.int 0)))) (e := mVar 6) (k := .lst S.length cares4) (Γ0 := [some (.ref n), a, b, none, none, none, none, none])
    (Q := fun xs acc S' => ∃ (cs ds ys : List Str) (o' : DO), xs = ys.map .str ∧ ds ++ ys = wCares ∧ cs.Sublist ds ∧ acc = cs.map .str ∧ RndOk o' ∧ S' = S.set n o' ++ [.lst cares4, .lst acc])
    (fun acc S' ⟨cs, ds, ys, o', h1, h2, h3, h4, h5, h6⟩ => by subst h6; simp [at_set0 hn])
    (fun x xs acc S' ⟨cs, ds, ys, o', h1, h2, h3, h4, h5, h6⟩ => by
      subst h6
      obtain ⟨y, ys, rfl, rfl, rfl⟩ := List.map_eq_cons_iff.mp h1.symm
      obtain ⟨r, o2, k1, k2, k3, k4⟩ := below_at (l := [.lst cares4, .lst acc]) hn h5 (k := 2) (by decide) (by decide)
      have hlen : cs.length ≤ 4 := Nat.le_trans h3.length_le (by have := congrArg List.length h2; simp [wCares] at this; omega)
      refine ⟨by simp [at_set0 hn], if r = 0 then some (.str y) else none, S.set n o2 ++ [.lst cares4, .lst acc], ?_, by simp [at_set hn], by subst h4; simp; exact Nat.lt_of_le_of_lt hlen (by decide), ?_⟩
      · by_cases c : r = 0 <;> simp [lcS, k4, c]
      · by_cases c : r = 0
        · exact ⟨cs ++ [y], ds ++ [y], ys, o2, rfl, by simpa using h2, by simpa using h3, by simp [c, h4], k1, by simp [c, set_setk hn]⟩
        · exact ⟨cs, ds ++ [y], ys, o2, rfl, by simpa using h2, h3.trans (by simp), by simp [c, h4], k1, by simp [c]⟩)
    (xs := cares4) (acc := []) (S := S.set n o ++ [.lst cares4, .lst []]) ⟨[], [], wCares, o, rfl, rfl, List.Sublist.refl _, rfl, ho, rfl⟩
  have e1 : ys = [] := by simpa using h1.symm
  subst e1 h6 h4
  exact ⟨cs, o', by rw [List.append_nil] at h2; rw [← h2]; exact h3, h5, e⟩
theorem draw_works {n N : Nat} {o x y : DO} {Γ0 : DG} {xs : List DV} (hΓ : ∃ Γ1, Γ0 = some (.ref n) :: Γ1) (hn : n < S.length) (ho : RndOk o) (hN : xs.length = N) (hN2 : N ≤ 1000) : ∃ (ws : List Str) (o' : DO) (J : DS), ws.length = N ∧ (∀ w ∈ ws, w ∈ wWorks) ∧ RndOk o' ∧
    lcL (S.length + 2) (gSet 7) mYes (mCallF b__law_pick [] (mCons (mVar 0) (mCons (mLst (mCons (mCst (.str "free")) (mCons (mCst (.str "sweep")) mNil))) mNil))) .fix Γ0 xs (S.set n o ++ [x, y, .lst []]) =
      .ok () (S.set n o' ++ x :: y :: .lst (ws.map .str) :: J) := by
  obtain ⟨Γ1, rfl⟩ := hΓ
  obtain ⟨acc, S', e, ws, o', J, h1, h2, h3, h4, h5⟩ := lc_inv (n := S.length + 2) (tg := gSet 7) (t := mYes) (e := mCallF b__law_pick [] (mCons (mVar 0) (mCons (mLst (mCons (mCst (.str "free")) (mCons (mCst (.str "sweep")) mNil))) mNil))) (k := .fix) (Γ0 := some (.ref n) :: Γ1)
    (Q := fun xs acc S' => ∃ (ws : List Str) (o' : DO) (J : DS), acc = ws.map .str ∧ ws.length + xs.length = N ∧ (∀ w ∈ ws, w ∈ wWorks) ∧ RndOk o' ∧ S' = S.set n o' ++ x :: y :: .lst acc :: J)
    (fun acc S' _ => rfl)
    (fun z xs acc S' ⟨ws, o', J, h1, h2, h3, h4, h5⟩ => by
      subst h5
      obtain ⟨d, o2, k1, k2, k3⟩ := pick_at (l := x :: y :: .lst acc :: (J ++ [.lst [.str "free", .str "sweep"]])) (m := J.length + 3) hn h4 (xs := [.str "free", .str "sweep"]) (by simp) (by simp) (by simp)
      rw [List.length_cons] at h2
      obtain ⟨w, rfl, hw⟩ : ∃ w : Str, d = .str w ∧ w ∈ wWorks := by
        simp at k1
        rcases k1 with rfl | rfl
        · exact ⟨_, rfl, by simp [wWorks]⟩
        · exact ⟨_, rfl, by simp [wWorks]⟩
      refine ⟨rfl, some (.str w), S.set n o2 ++ x :: y :: .lst acc :: (J ++ [.lst [.str "free", .str "sweep"]]), ?_, by simp [at_set hn], by rw [h1]; simp; exact Nat.lt_of_le_of_lt (by omega) (show 1000 < sizeLine by decide), ws ++ [w], o2, J ++ [.lst [.str "free", .str "sweep"]], by simp [h1], by simp; omega, ?_, k2, by simp [set_setk hn]⟩
      · simp [lcS, le_sz, k3]
      · intro w' hw'
        rcases List.mem_append.mp hw' with z | z
        · exact h3 _ z
        · rw [List.mem_singleton] at z
          rw [z]
          exact hw)
    (xs := xs) (acc := []) (S := S.set n o ++ [x, y, .lst []]) ⟨[], o, [], rfl, by simp [hN], by simp, ho, rfl⟩
  subst h5 h1
  exact ⟨ws, o', J, by simpa using h2, h3, h4, e⟩
theorem set_self {n : Nat} {o : DO} (h : S[n]? = some o) : S.set n o = S := by
  obtain ⟨hl, rfl⟩ := List.getElem?_eq_some_iff.mp h
  exact List.set_getElem_self hl
theorem draw_ok {n : Nat} {o : DO} {mr mw : Int} (h : S[n]? = some o) (ho : RndOk o) (hr : 0 ≤ mr ∧ mr < 1000) (hw : 1 ≤ mw ∧ mw < 1000) : ∃ (cs : List Str) (r : Int) (ws : List Str) (o' : DO) (J : DS), cs.Sublist wCares ∧ 0 ≤ r ∧ r ≤ mr ∧ 1 ≤ ws.length ∧ (ws.length : Int) ≤ mw ∧ (∀ w ∈ ws, w ∈ wWorks) ∧ RndOk o' ∧
    b__law_draw [.ref n, .int mr, .int mw] S = .ok (.tup [.tup (cs.map .str), .int r, .tup (ws.map .str)]) (S.set n o' ++ J) := by
  have hn := lt_some h
  obtain ⟨cs, o1, c1, c2, c3⟩ := draw_cares (a := some (.int mr)) (b := some (.int mw)) hn ho
  rw [set_self h] at c3
  obtain ⟨q, o2, d1, d2, d3, d4⟩ := below_at (l := [.lst cares4, .lst (cs.map .str)]) hn c2 (k := mw) (by omega) (by omega)
  obtain ⟨ws, o3, J, w1, w2, w3, w4⟩ := draw_works (x := .lst cares4) (y := .lst (cs.map .str)) (Γ0 := [some (.ref n), some (.int mr), some (.int mw), some (.ref (S.length + 1)), none, none, none, none]) (xs := rngD 0 (1 + q).toNat) ⟨_, rfl⟩ hn d1 rfl (by simp [rngD]; omega)
  obtain ⟨r, o4, e1, e2, e3, e4⟩ := below_at (l := .lst cares4 :: .lst (cs.map .str) :: .lst (ws.map .str) :: J) hn w3 (k := mr + 1) (by omega) (by omega)
  have hb : -4611686018427387904 ≤ 1 + q ∧ 1 + q < 4611686018427387904 := by omega
  refine ⟨cs, r, ws, o4, .lst cares4 :: .lst (cs.map .str) :: .lst (ws.map .str) :: J, c1, e2, by omega, by rw [w1]; simp [rngD]; omega, by rw [w1]; simp [rngD]; omega, w2, e1, ?_⟩
  simp [b__law_draw, le_sz, -lcL_cons, c3, d4, hb, w4, e4, at_set hn]
end
end KN
set_option maxHeartbeats 200000
namespace KN
open PySem PySem.Spec PyProof.Rows L2
section
variable {S : DS}
/-! ### the source is made -/
theorem seed_loop {ns : List Int} {s : Int} {a b c d : Option DV} (hs : 0 ≤ s) : ∃ (s' : Int) (c' : Option DV), 0 ≤ s' ∧ runL (gSet 3) (mSet 2 (mBin oMod (mCallB oInt (mCons (mBin oAdd (mBin oMul (mVar 2) (mCst (.int 31))) (mCallB oAbs (mCons (mVar 3) mNil))) mNil)) (mCst (.int 2147483647)))) .fix (ns.map .int) [a, b, some (.int s), c, d] S = .ok (.nx, [a, b, some (.int s'), c', d]) S := by
  induction ns generalizing s c with
  | nil => exact ⟨s, c, hs, by simp⟩
  | cons n ns ih =>
    obtain ⟨s', c', h1, h2⟩ := ih (s := (s * 31 + if n < 0 then -n else n) % 2147483647) (c := some (.int n)) (Int.emod_nonneg _ (by decide))
    exact ⟨s', c', h1, by simpa using h2⟩
def bigD : DV → Option DV
  | .int i => if 1000000000000000000 ≤ i then some (.int i) else none
  | _ => none
theorem filter_big : ∀ ns : List Int, (ns.map DV.int).filterMap bigD = (ns.filter fun i => decide (1000000000000000000 ≤ i)).map .int
  | [] => rfl
  | n :: ns => by
    have ih := filter_big ns
    rw [List.map_cons]
    by_cases z : (1000000000000000000 : Int) ≤ n
    · rw [List.filterMap_cons_some (b := .int n) (by simp [bigD, z]), ih, List.filter_cons_of_pos (by simpa using z), List.map_cons]
    · rw [List.filterMap_cons_none (by simp [bigD, z]), ih, List.filter_cons_of_neg (by simpa using z)]
theorem random_ok {ns : List Int} {salt : Int} (hs : 0 ≤ salt) (hn : ns.length ≤ 1000) : ∃ (o x y : DO), RndOk o ∧ b__law_random [.scr ns, .int salt] S = .ok (.ref (S.length + 2)) (S ++ [x, y, o]) := by
  obtain ⟨s, c, h1, h2⟩ := seed_loop (S := S) (ns := ns) (a := some (.scr ns)) (b := some (.int salt)) (c := none) (d := none) hs
  have h3 := lc_pure (S := S ++ [.lst [.int s, .int 0]]) (tg := gSet 3) (t := mTest (mBin (oCmp fun i j => decide (j ≤ i)) (mVar 3) (mBin oPow (mCst (.int 10)) (mCst (.int 18))))) (e := mVar 3) (k := .fix) (Γ0 := [some (.scr ns), some (.int salt), some (.int s), none, none]) (xs := ns.map .int) (acc := [])
    (f := bigD) (fun _ => rfl) (by simp; exact Nat.le_trans hn (by decide)) (fun x hx acc => by
      obtain ⟨i, _, rfl⟩ := List.mem_map.mp hx
      by_cases z : (1000000000000000000 : Int) ≤ i <;> simp [lcS, z, bigD])
  rw [filter_big] at h3
  have hl : (ns.filter fun i => decide (1000000000000000000 ≤ i)).length ≤ 1000 := Nat.le_trans (List.length_filter_le ..) hn
  have hz : (ns.filter fun i => decide (1000000000000000000 ≤ i)).length + 2 ≤ sizeLine := Nat.le_trans (Nat.add_le_add_right hl 2) (by decide)
  refine ⟨rnd s 0 (ns.filter fun i => decide (1000000000000000000 ≤ i)), .lst [.int s, .int 0], .lst ((ns.filter fun i => decide (1000000000000000000 ≤ i)).map .int), ⟨_, _, _, rfl, h1, Int.le_refl _, fun x hx => ?_⟩, ?_⟩
  · have := (List.mem_filter.mp hx).2
    simp at this
    omega
  · simp only [List.length_append, List.length_cons, List.length_nil, List.nil_append, List.append_assoc, List.cons_append] at h3
    have ha := add_r (S := S ++ [.lst [.int s, .int 0], .lst ((ns.filter fun i => decide (1000000000000000000 ≤ i)).map .int)]) (a := S.length) (b := S.length + 1) (x := [.int s, .int 0]) (y := (ns.filter fun i => decide (1000000000000000000 ≤ i)).map .int) (by simp) (by simp) (by simp; omega)
    simp at ha
    simp [b__law_random, le_sz, h2, h3, ha, rnd]
/-! ### words -/
def strIn (known : List Str) : DV → Bool
  | .str x => decide (x ∈ known)
  | _ => false
def areW (known : List Str) : DV → Bool
  | .tup l => l.all (strIn known)
  | _ => false
/-- values that the laws hand in -/
def okV (S : DS) : DV → Prop
  | .tup l => ∀ d ∈ l, flatD d = true ∧ pdB 12 d = true
  | .ref n => ∃ l, S[n]? = some (.lst l)
  | .scr _ => False
  | .str x => PyData.strOk x = true
  | _ => True
def okW (known : List Str) : Prop := ∀ x ∈ known, PyData.strOk x = true
theorem pd_strs {known : List Str} (h : okW known) : pdBs 12 (known.map .str) = true := pdBs_iff.mpr fun d hd => by
  obtain ⟨x, hx, rfl⟩ := List.mem_map.mp hd
  simpa [pdB] using h x hx
theorem filterMap_some' {α β : Type} {f : α → β} : ∀ {l : List α}, l.filterMap (fun a => some (f a)) = l.map f
  | [] => rfl
  | a :: l => by rw [List.filterMap_cons, List.map_cons, filterMap_some']
theorem mem_strs {x : Str} {known : List Str} : (DV.str x ∈ known.map DV.str) ↔ x ∈ known := by simp
theorem are_words_ok {v : DV} {known : List Str} (hv : okV S v) (hk : okW known) (hl : ∀ l, v = .tup l → l.length ≤ 1000) : ∃ J, b_are_words [v, .tup (known.map .str)] S = .ok (.bl (areW known v)) (S ++ J) := by
  cases v with
  | tup l =>
    have hl := hl l rfl
    have h3 := lc_pure (S := S) (tg := gSet 3) (t := mYes) (e := mAndV (mIsi (ioF CWP.cls) CWP.ic (.bi "str") (mVar 3)) (mBin (oInA false) (mVar 3) (mVar 1))) (k := .fix) (Γ0 := [some (.tup l), some (.tup (known.map .str)), none, none]) (xs := l) (acc := [])
      (f := fun d => some (.bl (strIn known d))) (fun _ => rfl) (by simp; exact Nat.le_trans hl (by decide)) (fun x hx acc => by
        obtain ⟨f1, f2⟩ := hv x hx
        have hin := fun (S : DS) => in_tup (S := S) (neg := false) f2 (pd_strs hk)
        cases x with
        | str x => simp [lcS, hin, strIn]
        | _ => first | (simp [flatD] at f1; done) | simp [lcS, strIn])
    rw [filterMap_some'] at h3
    refine ⟨[.lst (l.map fun d => .bl (strIn known d))], ?_⟩
    simp at h3
    simp [b_are_words, h3, areW]
  | ref n =>
    obtain ⟨l, h⟩ := hv
    exact ⟨[], by simp [b_are_words, h, areW]⟩
  | scr n => exact hv.elim
  | _ => exact ⟨[], by simp [b_are_words, areW]⟩
/-! ### a rule's parts -/
def strsOf : DV → List Str
  | .tup l => (strsD l).getD []
  | _ => []
def gCares (v : DV) : Bool := areW wCares v && decide (strsOf v = sortX (strsOf v))
def gRest : DV → Bool
  | .int i => decide (0 ≤ i) && decide (i ≤ 2)
  | _ => false
def lenD : DV → Nat
  | .tup l => l.length
  | _ => 0
def gWorks (v : DV) : Bool := areW wWorks v && (decide (1 ≤ lenD v) && decide (lenD v ≤ 3))
theorem is_between_ok {v : DV} {a b : Int} (hv : okV S v) : b_is_between [v, .int a, .int b] S = .ok (.bl (match v with | .int i => decide (a ≤ i) && decide (i ≤ b) | _ => false)) S := by
  cases v with
  | int i =>
    simp [b_is_between, b_is_integer]
    split <;> simp [*]
  | ref n =>
    obtain ⟨l, h⟩ := hv
    simp [b_is_between, b_is_integer, h]
  | scr n => exact hv.elim
  | _ => simp [b_is_between, b_is_integer]
theorem strs_all {known : List Str} : ∀ {l : List DV}, l.all (strIn known) = true → ∃ ks : List Str, l = ks.map .str ∧ strsD l = some ks ∧ ∀ k ∈ ks, k ∈ known
  | [], _ => ⟨[], rfl, rfl, by simp⟩
  | d :: l, h => by
    rw [List.all_cons, Bool.and_eq_true] at h
    obtain ⟨ks, rfl, e, hk⟩ := strs_all h.2
    cases d with
    | str x =>
      refine ⟨x :: ks, rfl, by rw [strsD, e]; rfl, fun k hk' => ?_⟩
      rcases List.mem_cons.mp hk' with rfl | z
      · simpa [strIn] using h.1
      · exact hk k z
    | _ => simp [strIn] at h
theorem eq_lsts {neg : Bool} {a b : Nat} {x y : List DV} (ha : S[a]? = some (.lst x)) (hb : S[b]? = some (.lst y)) (px : pdBs 11 x = true) (py : pdBs 11 y = true) : oEq neg (.ref a) (.ref b) S = .ok (.bl (neg ^^ decide (x = y))) S := by
  have d : ∀ {a : Nat} {x : List DV}, S[a]? = some (.lst x) → pdBs 11 x = true → dData S 12 (.ref a) = some (.list (toPDs x)) ∧ SeqAt.shaped (.list (toPDs x)) = true := fun {a x} ha px => by
    refine ⟨by rw [dData, ha]; dsimp only; rw [datas_pd px]; rfl, ?_⟩
    unfold SeqAt.shaped
    rw [show PyData.canLay0 (.list (toPDs x)) = PyData.canLayAll0 (toPDs x) from rfl, lays_pd px, Bool.true_and]
    exact decide_eq_true (by rw [PyData.depth]; have := depths_pd px; omega)
  unfold oEq eqS
  rw [if_neg (by simp [flatD]), (d ha px).1, (d hb py).1]
  dsimp only
  rw [(d ha px).2, (d hb py).2, Bool.and_true, if_pos rfl, PyData.eqv, eqvs_pd px py]
theorem sort_set {m : AM} {Γ : DG} {S1 : DS} {d : DV} {l : List DV} {ks : List Str} (h : m Γ S = .ok [d] S1) (hi : itemsOf S1 d = some l) (hs : strsD l = some ks) (hl : ks.length ≤ 1000) : mSortSet m Γ S = newLst ((sortX ks).map .str) S1 := by
  unfold mSortSet
  rw [h]
  dsimp only [bind_ok]
  rw [hi]
  dsimp only
  rw [hs]
  dsimp only
  rw [if_pos (Nat.lt_of_le_of_lt (Nat.succ_le_succ hl) (by decide))]
theorem okc : okW wCares := by
  intro x hx
  simp [wCares] at hx
  rcases hx with rfl | rfl | rfl | rfl <;> decide +kernel
theorem okw : okW wWorks := by
  intro x hx
  simp [wWorks] at hx
  rcases hx with rfl | rfl <;> decide +kernel
theorem mem_sortX {ks : List Str} {x : Str} (h : x ∈ sortX ks) : x ∈ ks := by
  unfold sortX at h
  rw [List.mem_mergeSort] at h
  have g : ∀ (l acc : List Str), x ∈ l.foldl insX acc → x ∈ l ∨ x ∈ acc := by
    intro l
    induction l with
    | nil => exact fun acc h => .inr h
    | cons a l ih =>
      intro acc h
      rcases ih _ h with h | h
      · exact .inl (List.mem_cons_of_mem _ h)
      · unfold insX at h
        split at h
        · exact .inr h
        · rcases List.mem_cons.mp h with rfl | h
          · exact .inl (List.mem_cons_self ..)
          · exact .inr h
  rcases g ks [] h with h | h
  · exact h
  · cases h
def shortV (v : DV) : Prop := ∀ l, v = .tup l → l.length ≤ 1000
/-- what the look at a rule says -/
def ruleR (c r w : DV) (S : DS) : DR DV := if gCares c = false then .exc "InvalidRule" [("part", .str "cares")] S else if gRest r = false then .exc "InvalidRule" [("part", .str "rest")] S else if gWorks w = false then .exc "InvalidRule" [("part", .str "works")] S else .ok .non S
theorem is_rest {v : DV} (hv : okV S v) : b_is_between [v, .int 0, .int 2] S = .ok (.bl (gRest v)) S := (is_between_ok hv).trans (by cases v <;> rfl)
theorem look_ok {c r w : DV} (hc : ∀ J, okV (S ++ J) c) (hr : ∀ J, okV (S ++ J) r) (hw : ∀ J, okV (S ++ J) w) (lc : shortV c) (lw : shortV w) : ∃ J, b_look_at_rule [c, r, w] S = ruleR c r w (S ++ J) := by
  obtain ⟨J1, e1⟩ := are_words_ok (S := S) (by simpa using hc []) okc lc
  simp only [wCares, List.map_cons, List.map_nil] at e1
  by_cases a1 : areW wCares c = true
  · have a1' := a1
    simp only [wCares] at a1'
    rw [a1'] at e1
    cases c with
    | tup l =>
      obtain ⟨ks, rfl, k1, k2⟩ := strs_all (known := wCares) (l := l) a1
      have hlen : ks.length ≤ 1000 := by simpa using lc _ rfl
      have hpd : pdBs 11 (ks.map DV.str) = true := pdBs_iff.mpr fun d hd => by
        obtain ⟨x, hx, rfl⟩ := List.mem_map.mp hd
        simpa [pdB] using okc x (k2 x hx)
      have hpd2 : pdBs 11 ((sortX ks).map DV.str) = true := pdBs_iff.mpr fun d hd => by
        obtain ⟨x, hx, rfl⟩ := List.mem_map.mp hd
        simpa [pdB] using okc x (k2 x (mem_sortX hx))
      have es := fun Γ => sort_set (m := mCons (mVar 0) mNil) (Γ := some (.tup (ks.map .str)) :: Γ) (S1 := S ++ (J1 ++ [.lst (ks.map .str)])) (S := S ++ (J1 ++ [.lst (ks.map .str)])) (l := ks.map .str) rfl rfl k1 hlen
      have eq1 := eq_lsts (S := S ++ (J1 ++ [.lst (ks.map .str), .lst ((sortX ks).map .str)])) (neg := true) (a := S.length + J1.length) (b := S.length + (J1.length + 1)) (x := ks.map .str) (y := (sortX ks).map .str) (by simp) (by simp) hpd hpd2
      have inj : ∀ {a b : List Str}, a.map DV.str = b.map DV.str → a = b := fun h => List.map_inj_right (fun _ _ e => by cases e; rfl) |>.mp h
      by_cases a2 : ks = sortX ks
      · have g1 : gCares (.tup (ks.map .str)) = true := by
          unfold gCares
          rw [a1]
          simp [strsOf, k1, ← a2]
        have b2 : ((ks.map DV.str) = ((sortX ks).map DV.str)) = True := eq_true (by rw [← a2])
        have eb := is_rest (S := S ++ (J1 ++ [.lst (ks.map .str), .lst ((sortX ks).map .str)])) (hr _)
        by_cases a3 : gRest r = true
        · obtain ⟨J3, e3⟩ := are_words_ok (S := S ++ (J1 ++ [.lst (ks.map .str), .lst ((sortX ks).map .str)])) (hw _) okw lw
          simp only [wWorks, List.map_cons, List.map_nil] at e3
          refine ⟨J1 ++ [.lst (ks.map .str), .lst ((sortX ks).map .str)] ++ J3, ?_⟩
          rw [a3] at eb
          unfold ruleR
          rw [g1, a3, if_neg (by simp), if_neg (by simp)]
          by_cases a4 : areW wWorks w = true
          · have a4' := a4
            simp only [wWorks] at a4'
            rw [a4'] at e3
            cases w with
            | tup m =>
              by_cases a5 : 1 ≤ m.length
              · by_cases a6 : m.length ≤ 3
                · have b5 : (1 : Int) ≤ (m.length : Int) := by omega
                  have b6 : (m.length : Int) ≤ 3 := by omega
                  simp [b_look_at_rule, e1, es, eq1, b2, eb, e3, Nat.add_assoc, gWorks, a4, lenD, a5, a6, b5, b6]
                · have b5 : (1 : Int) ≤ (m.length : Int) := by omega
                  have b6 : ¬ (m.length : Int) ≤ 3 := by omega
                  simp [b_look_at_rule, e1, es, eq1, b2, eb, e3, Nat.add_assoc, gWorks, a4, lenD, a5, a6, b5, b6]
              · have b5 : ¬ (1 : Int) ≤ (m.length : Int) := by omega
                simp [b_look_at_rule, e1, es, eq1, b2, eb, e3, Nat.add_assoc, gWorks, a4, lenD, a5, b5]
            | _ => simp [areW] at a4
          · have a4' := a4
            simp only [wWorks] at a4'
            rw [Bool.eq_false_iff.mpr a4'] at e3
            simp [b_look_at_rule, e1, es, eq1, b2, eb, e3, Nat.add_assoc, gWorks, a4]
        · refine ⟨J1 ++ [.lst (ks.map .str), .lst ((sortX ks).map .str)], ?_⟩
          unfold ruleR
          rw [g1, if_neg (by simp), if_pos (by simpa using a3)]
          rw [Bool.eq_false_iff.mpr a3] at eb
          simp [b_look_at_rule, e1, es, eq1, b2, eb, Nat.add_assoc]
      · have g1 : gCares (.tup (ks.map .str)) = false := by
          unfold gCares
          rw [a1]
          simpa [strsOf, k1] using a2
        have b2 : ((ks.map DV.str) = ((sortX ks).map DV.str)) = False := eq_false fun h => a2 (inj h)
        refine ⟨J1 ++ [.lst (ks.map .str), .lst ((sortX ks).map .str)], ?_⟩
        simp [b_look_at_rule, e1, es, eq1, b2, Nat.add_assoc, ruleR, g1]
    | _ => simp [areW] at a1
  · have a1' := a1
    simp only [wCares] at a1'
    rw [Bool.eq_false_iff.mpr a1'] at e1
    refine ⟨J1, ?_⟩
    simp [b_look_at_rule, e1, ruleR, gCares, a1]
/-- a rule as it stands -/
def ruleO (c r w : DV) : DO := .ins "Rule" [("some_cares", c), ("nights", r), ("in_turn", w)]
theorem rule_good {c r w : DV} {n : Nat} (hn : n = S.length) (hc : ∀ J, okV (S ++ J) c) (hr : ∀ J, okV (S ++ J) r) (hw : ∀ J, okV (S ++ J) w) (lc : shortV c) (lw : shortV w) (g1 : gCares c = true) (g2 : gRest r = true) (g3 : gWorks w = true) : ∃ J, b_Rule___init__ [.ref n, c, r, w] (S ++ [.ins "Rule" []]) = .ok .non (S ++ ruleO c r w :: J) := by
  subst hn
  obtain ⟨J, e⟩ := look_ok (S := S ++ [.ins "Rule" []]) (c := c) (r := r) (w := w) (fun J => by rw [List.append_assoc]; exact hc _) (fun J => by rw [List.append_assoc]; exact hr _) (fun J => by rw [List.append_assoc]; exact hw _) lc lw
  unfold ruleR at e
  rw [g1, g2, g3] at e
  simp at e
  exact ⟨J, by simp [b_Rule___init__, e, ruleO]⟩
theorem rule_bad {c r w : DV} {n : Nat} (hn : n = S.length) (hc : ∀ J, okV (S ++ J) c) (hr : ∀ J, okV (S ++ J) r) (hw : ∀ J, okV (S ++ J) w) (lc : shortV c) (lw : shortV w) {p : Str} (h : ∀ S, ruleR c r w S = .exc "InvalidRule" [("part", .str p)] S) : ∃ J, b_Rule___init__ [.ref n, c, r, w] (S ++ [.ins "Rule" []]) = .exc "InvalidRule" [("part", .str p)] (S ++ .ins "Rule" [] :: J) := by
  subst hn
  obtain ⟨J, e⟩ := look_ok (S := S ++ [.ins "Rule" []]) (c := c) (r := r) (w := w) (fun J => by rw [List.append_assoc]; exact hc _) (fun J => by rw [List.append_assoc]; exact hr _) (fun J => by rw [List.append_assoc]; exact hw _) lc lw
  rw [h] at e
  simp at e
  exact ⟨J, by simp [b_Rule___init__, e]⟩
end
end KN
set_option maxHeartbeats 200000
namespace KN
open PySem PySem.Spec PyProof.Rows L2
section
variable {S : DS}
/-! ### equal data, as the laws compare -/
def okF (x : DV) : Prop := flatD x = true ∧ ∀ z, x = .str z → PyData.strOk z = true
def Same (S : DS) : Nat → DV → DV → Prop
  | 0, x, y => okF x ∧ x = y
  | n + 1, x, y => (okF x ∧ x = y) ∨ (∃ l m, x = .tup l ∧ y = .tup m ∧ l.length = m.length ∧ l.length ≤ 1000 ∧ ∀ (i : Nat) a b, l[i]? = some a → m[i]? = some b → Same S n a b) ∨
    ∃ p q l m, x = .ref p ∧ y = .ref q ∧ S[p]? = some (.lst l) ∧ S[q]? = some (.lst m) ∧ l.length = m.length ∧ l.length ≤ 1000 ∧ ∀ (i : Nat) a b, l[i]? = some a → m[i]? = some b → Same S n a b
theorem at_ext {n : Nat} {o : DO} {J : DS} (h : S[n]? = some o) : (S ++ J)[n]? = some o := by rw [at_in (lt_some h), h]
theorem Same.ext {J : DS} : ∀ {n : Nat} {x y : DV}, Same S n x y → Same (S ++ J) n x y
  | 0, _, _, h => h
  | n + 1, _, _, h => by
    rcases h with h | ⟨l, m, rfl, rfl, h1, h2, h3⟩ | ⟨p, q, l, m, rfl, rfl, e1, e2, h1, h2, h3⟩
    · exact .inl h
    · exact .inr (.inl ⟨l, m, rfl, rfl, h1, h2, fun i a b ha hb => (h3 i a b ha hb).ext⟩)
    · exact .inr (.inr ⟨p, q, l, m, rfl, rfl, at_ext e1, at_ext e2, h1, h2, fun i a b ha hb => (h3 i a b ha hb).ext⟩)
theorem Same.le : ∀ {n m : Nat} {x y : DV}, n ≤ m → Same S n x y → Same S m x y
  | 0, 0, _, _, _, h => h
  | 0, m + 1, _, _, _, h => .inl h
  | n + 1, 0, _, _, hl, h => by omega
  | n + 1, m + 1, _, _, hl, h => by
    rcases h with h | ⟨l, k, rfl, rfl, h1, h2, h3⟩ | ⟨p, q, l, k, rfl, rfl, e1, e2, h1, h2, h3⟩
    · exact .inl h
    · exact .inr (.inl ⟨l, k, rfl, rfl, h1, h2, fun i a b ha hb => (h3 i a b ha hb).le (by omega)⟩)
    · exact .inr (.inr ⟨p, q, l, k, rfl, rfl, e1, e2, h1, h2, fun i a b ha hb => (h3 i a b ha hb).le (by omega)⟩)
theorem eq_flat {neg : Bool} {x : DV} (h : okF x) : oEq neg x x S = .ok (.bl (neg ^^ true)) S := by
  have e : eqF x x = true := by
    obtain ⟨h1, _⟩ := h
    cases x <;> first | rfl | (simp [eqF]; done) | simp [flatD] at h1
  unfold oEq eqS
  rw [h.1, Bool.and_self, if_pos rfl, e]
theorem eqf_flat {mt : Str → Str → Option DFn} {nf : Str → TyN → Bool} {ic : Str → Bool} {x : DV} (h : okF x) : oEqF mt nf ic x x S = .ok (.bl true) S := by
  have e : isIns S x = false := by
    obtain ⟨h1, _⟩ := h
    cases x <;> first | rfl | simp [flatD] at h1
  unfold oEqF
  rw [e, if_neg Bool.false_ne_true, eq_flat h]
  rfl
theorem ne_bb {a b : Bool} : oEq true (.bl a) (.bl b) S = .ok (.bl (a != b)) S := by
  unfold oEq eqS
  simp only [flatD, Bool.and_self, if_true, eqF]
  cases a <;> cases b <;> rfl
theorem ne_ii {a b : Int} : oEq true (.int a) (.int b) S = .ok (.bl (decide (a ≠ b))) S := by
  rw [eq_pd (by rfl) (by rfl)]
  simp
abbrev eqBody (n : Nat) : EM := mCallF (b__law_equal n) [] (mCons (mBin oIx (mVar 0) (mVar 4)) (mCons (mBin oIx (mVar 1) (mVar 4)) mNil))
theorem equal_loop {n : Nat} {x y : DV} {N : Nat} {c d : Option DV} (hx : ∀ (J : DS) (i : Nat), i < N → ∃ a b, oIx x (.int i) (S ++ J) = .ok a (S ++ J) ∧ oIx y (.int i) (S ++ J) = .ok b (S ++ J) ∧ ∀ J, ∃ J', b__law_equal n [a, b] (S ++ J) = .ok (.bl true) (S ++ J ++ J')) (hN : N ≤ 1000) :
    ∃ J', lcL S.length (gSet 4) mYes (eqBody n) .fix [some x, some y, c, d, none] (rngD 0 N) (S ++ [.lst []]) = .ok () (S ++ .lst ((List.range N).map fun _ => .bl true) :: J') := by
  have h := lc_junk (S := S) (tg := gSet 4) (t := mYes) (e := eqBody n) (k := .fix) (Γ0 := [some x, some y, c, d, none]) (xs := rngD 0 N) (acc := []) (J := []) (f := fun _ => some (.bl true)) (fun _ _ => rfl) (by simp [rngD]; exact Nat.le_trans hN (by decide)) (fun z hz acc J => by
    unfold rngD at hz
    obtain ⟨i, hi, rfl⟩ := List.mem_map.mp hz
    rw [List.mem_range] at hi
    obtain ⟨a, b, e1, e2, e3⟩ := hx (.lst acc :: J) i hi
    obtain ⟨J', e3⟩ := e3 (.lst acc :: J)
    exact ⟨J ++ J', by simp [lcS, e1, e2, e3]⟩)
  obtain ⟨J', h⟩ := h
  refine ⟨J', ?_⟩
  rw [h]
  congr 3
  rw [filterMap_some']
  simp [rngD]
theorem all_true {γ : Type} {l : List γ} : blsOf (l.map fun _ => DV.bl true) = some (l.map fun _ => true) := bls_map
theorem equal_flat {n : Nat} {x : DV} (h1 : okF x) : b__law_equal (n + 1) [x, x] S = .ok (.bl true) S := by
  have e := fun (S : DS) => eqf_flat (S := S) (mt := noT) (nf := CWP.nf) (ic := CWP.ic) h1
  cases x with
  | non => simp [b__law_equal]
  | bl b => simp [b__law_equal, e]
  | int i => simp [b__law_equal, e]
  | str z => simp [b__law_equal, e]
  | _ => have := h1.1; simp [flatD] at this
theorem equal_tup {n : Nat} {l m : List DV} {J : DS} {N : Nat} (h1 : l.length = N) (h2 : m.length = N) (hN : N ≤ 1000)
    (e : lcL S.length (gSet 4) mYes (eqBody n) .fix [some (.tup l), some (.tup m), none, none, none] (rngD 0 N) (S ++ [.lst []]) = .ok () (S ++ .lst ((List.range N).map fun _ => .bl true) :: J)) :
    b__law_equal (n + 1) [.tup l, .tup m] S = .ok (.bl true) (S ++ .lst ((List.range N).map fun _ => .bl true) :: J) := by
  have hb := fun (S : DS) => rng1K_n (S := S) (show N ≤ 1000000 by omega)
  rw [b__law_equal]
  unfold eqBody at e
  generalize b__law_equal n = g at e ⊢
  simp [ne_bb, ne_ii, h1, h2, hb, e, all_true, -lcL_cons, -rng1K_i]
theorem equal_lst {n p q : Nat} {l m : List DV} {J : DS} {N : Nat} (e1 : S[p]? = some (.lst l)) (e2 : S[q]? = some (.lst m)) (h1 : l.length = N) (h2 : m.length = N) (hN : N ≤ 1000)
    (e : lcL S.length (gSet 4) mYes (eqBody n) .fix [some (.ref p), some (.ref q), none, none, none] (rngD 0 N) (S ++ [.lst []]) = .ok () (S ++ .lst ((List.range N).map fun _ => .bl true) :: J)) :
    b__law_equal (n + 1) [.ref p, .ref q] S = .ok (.bl true) (S ++ .lst ((List.range N).map fun _ => .bl true) :: J) := by
  have hb := fun (S : DS) => rng1K_n (S := S) (show N ≤ 1000000 by omega)
  rw [b__law_equal]
  unfold eqBody at e
  generalize b__law_equal n = g at e ⊢
  simp [ne_bb, ne_ii, e1, e2, h1, h2, hb, e, all_true, -lcL_cons, -rng1K_i]
theorem equal_ok {n : Nat} : ∀ {S : DS} {x y : DV}, Same S n x y → ∃ J, b__law_equal (n + 1) [x, y] S = .ok (.bl true) (S ++ J) := by
  have flat : ∀ {n : Nat} {S : DS} {x y : DV}, okF x ∧ x = y → ∃ J, b__law_equal (n + 1) [x, y] S = .ok (.bl true) (S ++ J) := fun ⟨h1, h2⟩ => by
    subst h2
    exact ⟨[], by rw [equal_flat h1, List.append_nil]⟩
  induction n with
  | zero => exact fun h => flat h
  | succ n ih =>
    intro S x y h
    rcases h with h | ⟨l, m, rfl, rfl, h1, h2, h3⟩ | ⟨p, q, l, m, rfl, rfl, e1, e2, h1, h2, h3⟩
    · exact flat h
    · obtain ⟨J', e⟩ := equal_loop (S := S) (n := n + 1) (x := .tup l) (y := .tup m) (N := m.length) (c := none) (d := none) (fun J i hi => by
        have hi' : i < l.length := by omega
        refine ⟨l[i], m[i], by simp [atI_n, hi'], by simp [atI_n, hi], fun J2 => ?_⟩
        exact ih (h3 i _ _ (List.getElem?_eq_getElem hi') (List.getElem?_eq_getElem hi)).ext) (by omega)
      exact ⟨_, equal_tup h1 rfl (by omega) e⟩
    · obtain ⟨J', e⟩ := equal_loop (S := S) (n := n + 1) (x := .ref p) (y := .ref q) (N := m.length) (c := none) (d := none) (fun J i hi => by
        have hi' : i < l.length := by omega
        refine ⟨l[i], m[i], by simp [at_ext e1, atI_n, hi'], by simp [at_ext e2, atI_n, hi], fun J2 => ?_⟩
        exact ih (h3 i _ _ (List.getElem?_eq_getElem hi') (List.getElem?_eq_getElem hi)).ext) (by omega)
      exact ⟨_, equal_lst e1 e2 h1 rfl (by omega) e⟩
/-! ### rules compared -/
def RuleAt (S : DS) (n : Nat) (c r w : DV) : Prop := S[n]? = some (ruleO c r w)
theorem eqO_ap {mt : Str → Str → Option DFn} {n : Nat} {fs : List (Str × DV)} {g : DFn} {y : DV} {t : TyN} (h : S[n]? = some (.ins "Rule" fs)) (hg : mt "Rule" "__eq__" = some g) (ht : tyOf S y = some t) (hn : (CWP.nf "Rule" t && icT CWP.ic t) = true) :
    oEqF mt CWP.nf CWP.ic (.ref n) y S = prK (g [.ref n, y] S) := by
  have e : isIns S (.ref n) = true := by simp [isIns, h]
  unfold oEqF
  rw [if_pos e]
  unfold oEqO
  dsimp only
  rw [h]
  dsimp only
  rw [hg, ht]
  dsimp only
  rw [if_pos hn]
  cases g [.ref n, y] S <;> rfl
theorem nf_non : (CWP.nf "Rule" (.bi "NoneType") && icT CWP.ic (.bi "NoneType")) = true := by kernel_rfl
theorem nf_bool : (CWP.nf "Rule" (.bi "bool") && icT CWP.ic (.bi "bool")) = true := by kernel_rfl
theorem nf_int : (CWP.nf "Rule" (.bi "int") && icT CWP.ic (.bi "int")) = true := by kernel_rfl
theorem nf_str : (CWP.nf "Rule" (.bi "str") && icT CWP.ic (.bi "str")) = true := by kernel_rfl
theorem nf_tuple : (CWP.nf "Rule" (.bi "tuple") && icT CWP.ic (.bi "tuple")) = true := by kernel_rfl
theorem nf_rule : (CWP.nf "Rule" (.own "Rule") && icT CWP.ic (.own "Rule")) = true := by kernel_rfl
/-- parts of a rule that was made -/
def goodP (c r w : DV) : Prop := ∃ (cs : List Str) (i : Int) (ws : List Str), c = .tup (cs.map .str) ∧ r = .int i ∧ w = .tup (ws.map .str) ∧ (∀ x ∈ cs, x ∈ wCares) ∧ (∀ x ∈ ws, x ∈ wWorks)
theorem good_of {c r w : DV} (g1 : gCares c = true) (g2 : gRest r = true) (g3 : gWorks w = true) : goodP c r w := by
  unfold gCares at g1
  unfold gWorks at g3
  rw [Bool.and_eq_true] at g1 g3
  cases c with
  | tup l =>
    obtain ⟨cs, rfl, _, k⟩ := strs_all g1.1
    cases w with
    | tup m =>
      obtain ⟨ws, rfl, _, k2⟩ := strs_all g3.1
      cases r with
      | int i => exact ⟨cs, i, ws, rfl, rfl, rfl, k, k2⟩
      | _ => simp [gRest] at g2
    | _ => simp [areW] at g3
  | _ => simp [areW] at g1
theorem pd_tup {known cs : List Str} (ho : okW known) (h : ∀ x ∈ cs, x ∈ known) : pdB 12 (.tup (cs.map .str)) = true := by
  rw [pdB]
  refine pdBs_iff.mpr fun d hd => ?_
  obtain ⟨x, hx, rfl⟩ := List.mem_map.mp hd
  simpa [pdB] using ho x (h x hx)
theorem goodP.pd {c r w : DV} (h : goodP c r w) : pdB 12 c = true ∧ pdB 12 r = true ∧ pdB 12 w = true := by
  obtain ⟨cs, i, ws, rfl, rfl, rfl, h1, h2⟩ := h
  exact ⟨pd_tup okc h1, by rfl, pd_tup okw h2⟩
theorem rule_eq {n m : Nat} {c r w c' r' w' : DV} (h : S[n]? = some (ruleO c r w)) (h' : S[m]? = some (ruleO c' r' w')) (g : goodP c r w) (g' : goodP c' r' w') : b_Rule___eq__ [.ref n, .ref m] S = .ok (.bl (decide (c = c') && (decide (r = r') && decide (w = w')))) S := by
  obtain ⟨p1, p2, p3⟩ := g.pd
  obtain ⟨q1, q2, q3⟩ := g'.pd
  have k1 := eq_pd (S := S) (neg := true) p1 q1
  have k2 := eq_pd (S := S) (neg := true) p2 q2
  have k3 := eqf_pd (S := S) (mt := noT) (nf := CWP.nf) (ic := CWP.ic) p3 q3
  unfold ruleO at h h'
  by_cases e1 : c = c'
  · subst e1
    by_cases e2 : r = r'
    · subst e2
      simp [b_Rule___eq__, h, h', k1, k2, k3]
    · simp [b_Rule___eq__, h, h', k1, k2, e2]
  · simp [b_Rule___eq__, h, h', k1, e1]
theorem rule_ne {n : Nat} {c r w y : DV} (h : S[n]? = some (ruleO c r w)) (hy : flatD y = true ∨ ∃ l, y = .tup l) : b_Rule___eq__ [.ref n, y] S = .ok (.bl false) S := by
  unfold ruleO at h
  rcases hy with hy | ⟨l, rfl⟩
  · cases y <;> first | (simp [flatD] at hy; done) | simp [b_Rule___eq__]
  · simp [b_Rule___eq__]
def addK (a b : Option DO) (S : DS) : DR DV := match a, b with
  | some (.lst x), some (.lst y) => if x.length + y.length ≤ sizeLine then newLst (x ++ y) S else .bad
  | _, _ => .bad
@[simp] theorem addK_l {x y : List DV} : addK (some (.lst x)) (some (.lst y)) S = if x.length + y.length ≤ sizeLine then newLst (x ++ y) S else .bad := Eq.trans rfl rfl
@[simp] theorem add_rr {a b : Nat} : oAdd (.ref a) (.ref b) S = addK S[a]? S[b]? S := Eq.trans rfl rfl
@[simp] theorem mul_t {l : List DV} {k : Int} : oMul (.tup l) (.int k) S = if l ≠ [] ∧ 2 ≤ k ∧ k ≤ 1000 ∧ l.length ≤ 1000 then .ok (.tup (List.replicate k.toNat l).flatten) S else .bad := Eq.trans rfl rfl
end
end KN
set_option maxHeartbeats 200000
namespace KN
open PySem PySem.Spec PyProof.Rows L2
section
variable {S S' : DS} {Γ : DG}
/-! ### a body, statement by statement -/
def Ret (b : SM) (Γ : DG) (S : DS) (d : DV) : Prop := ∃ Γ' S', b Γ S = .ok (.rt d, Γ') S'
def RetB (r : DR (DF × DG)) (b : SM) (d : DV) : Prop := ∃ Γ' S', r.bnd (seqK b) = .ok (.rt d, Γ') S'
def RetE (r : DR DV) (d : DV) : Prop := ∃ S', r = .ok d S'
theorem Ret_seq {a b : SM} {d : DV} : Ret (mSeq a b) Γ S d ↔ RetB (a Γ S) b d := by
  unfold Ret RetB
  rw [mSeq_ap]
theorem RetB_cong {r r' : DR (DF × DG)} {b : SM} {d : DV} (h : r = r') : RetB r b d = RetB r' b d := by rw [h]
theorem RetE_cong {r r' : DR DV} {d : DV} (h : r = r') : RetE r d = RetE r' d := by rw [h]
theorem Ret_cong {b : SM} {d : DV} {Γ' : DG} {S' : DS} (h : Γ = Γ') (h2 : S = S') : Ret b Γ S d = Ret b Γ' S' d := by rw [h, h2]
@[simp] theorem RetB_nx {b : SM} {d : DV} : RetB (.ok (.nx, Γ) S) b d = Ret b Γ S d := by
  unfold RetB
  rw [bok, seqK_nx]
  rfl
@[simp] theorem RetB_rt {b : SM} {d d' : DV} : RetB (.ok (.rt d', Γ) S) b d = (d' = d) := by
  unfold RetB
  rw [bok, seqK_rt]
  refine propext ⟨fun ⟨_, _, h⟩ => by cases h; rfl, fun h => ⟨Γ, S, by rw [h]⟩⟩
theorem Ret_ret {m : EM} {d : DV} : Ret (mRet m) Γ S d ↔ RetE (m Γ S) d := by
  unfold Ret RetE
  rw [mRet_ap]
  refine ⟨fun ⟨Γ', S', h⟩ => ?_, fun ⟨S', h⟩ => ⟨Γ, S', by rw [h, bok]⟩⟩
  cases e : m Γ S with
  | ok x S1 =>
    rw [e, bok] at h
    cases h
    exact ⟨_, rfl⟩
  | exc c fs s => rw [e, bexc] at h; cases h
  | bad => rw [e, bbad] at h; cases h
@[simp] theorem RetE_ok {d d' : DV} : RetE (.ok d' S) d = (d' = d) := by
  unfold RetE
  refine propext ⟨fun ⟨_, h⟩ => by cases h; rfl, fun h => ⟨S, by rw [h]⟩⟩
theorem Ret.fn1 {s : Nat} {b : SM} {x d : DV} (h : Ret b (some x :: List.replicate (s - 1) none) S d) : ∃ S', fnD 1 s b [x] S = .ok d S' := by
  obtain ⟨Γ', S', e⟩ := h
  exact ⟨S', by rw [fnD_1, e, bok, retK_rt]⟩
/-! ### stores whose lists stay lists -/
def Lk (S S2 : DS) : Prop := ∀ (n : Nat) (l : List DV), S[n]? = some (DO.lst l) → ∃ l2 : List DV, S2[n]? = some (DO.lst l2)
theorem Lk.refl (S : DS) : Lk S S := fun n l h => ⟨l, h⟩
theorem Lk.trans {S1 S2 S3 : DS} (a : Lk S1 S2) (b : Lk S2 S3) : Lk S1 S3 := fun n l h => by
  obtain ⟨l', h'⟩ := a n l h
  exact b n l' h'
theorem Lk.app {S J : DS} : Lk S (S ++ J) := fun n l h => ⟨l, at_ext h⟩
theorem Lk.set {S : DS} {m : Nat} {l : List DV} : Lk S (S.set m (.lst l)) := fun n k h => by
  by_cases e : m = n
  · subst e
    exact ⟨l, by simp [lt_some h]⟩
  · exact ⟨k, by rw [List.getElem?_set_ne e]; exact h⟩
theorem RndOk.lst {o : DO} (h : RndOk o) : ∃ l, o = .lst l := by
  obtain ⟨a, b, l, rfl, _⟩ := h
  exact ⟨_, rfl⟩
theorem Lk.rnd {S J : DS} {m : Nat} {o : DO} (h : RndOk o) : Lk S (S.set m o ++ J) := by
  obtain ⟨l, rfl⟩ := h.lst
  exact Lk.set.trans Lk.app
theorem okV.lk {v : DV} (a : Lk S S') (h : okV S v) : okV S' v := by
  cases v with
  | ref n =>
    obtain ⟨l, e⟩ := h
    exact a n l e
  | _ => exact h
theorem okV.app {v : DV} (h : okV S v) (J : DS) : okV (S ++ J) v := h.lk Lk.app
theorem at_keep {m n : Nat} {o x : DO} {J : DS} (hne : m ≠ n) (h : S[m]? = some x) : (S.set n o ++ J)[m]? = some x := at_ext (by rw [List.getElem?_set_ne (Ne.symm hne)]; exact h)
theorem at_new {n : Nat} {o x : DO} {J : DS} (h : S[n]? = some x) : (S.set n o ++ J)[n]? = some o := at_ext (get_set' (lt_some h))
/-! ### == of instances -/
def tyK : Option DO → Option TyN
  | some (.lst _) => some (.bi "list")
  | some (.dct _ _) => some (.bi "dict")
  | some (.ins c _) => some (.own c)
  | none => none
@[simp] theorem tyK_l {l : List DV} : tyK (some (.lst l)) = some (.bi "list") := Eq.trans rfl rfl
@[simp] theorem tyK_d {b : Bool} {l : List (DV × DV)} : tyK (some (.dct b l)) = some (.bi "dict") := Eq.trans rfl rfl
@[simp] theorem tyK_i {c : Str} {l : List (Str × DV)} : tyK (some (.ins c l)) = some (.own c) := Eq.trans rfl rfl
@[simp] theorem ty_r {n : Nat} : tyOf S (.ref n) = tyK S[n]? := by
  unfold tyOf tyK
  rfl
@[simp] theorem ty_t {l : List DV} : tyOf S (.tup l) = some (.bi "tuple") := Eq.trans rfl rfl
@[simp] theorem ty_i {i : Int} : tyOf S (.int i) = some (.bi "int") := Eq.trans rfl rfl
@[simp] theorem ty_b {i : Bool} : tyOf S (.bl i) = some (.bi "bool") := Eq.trans rfl rfl
@[simp] theorem ty_s {i : Str} : tyOf S (.str i) = some (.bi "str") := Eq.trans rfl rfl
@[simp] theorem ty_n : tyOf S .non = some (.bi "NoneType") := Eq.trans rfl rfl
def eqM (g : Option DFn) (t : Option TyN) (nf : Str → TyN → Bool) (ic : Str → Bool) (c : Str) (x y : DV) (S : DS) : DR DV := match g, t with
  | some g, some t => if nf c t = true ∧ icT ic t = true then prK (g [x, y] S) else .bad
  | _, _ => .bad
@[simp] theorem eqM_s {g : DFn} {t : TyN} {nf : Str → TyN → Bool} {ic : Str → Bool} {c : Str} {x y : DV} : eqM (some g) (some t) nf ic c x y S = if nf c t = true ∧ icT ic t = true then prK (g [x, y] S) else .bad := Eq.trans rfl rfl
def eqR (mt : Str → Str → Option DFn) (nf : Str → TyN → Bool) (ic : Str → Bool) (n : Nat) (y : DV) (o : Option DO) (S : DS) : DR DV := match o with
  | some (.ins c _) => eqM (mt c "__eq__") (tyOf S y) nf ic c (.ref n) y S
  | _ => oEq false (.ref n) y S
@[simp] theorem eqR_i {mt : Str → Str → Option DFn} {nf : Str → TyN → Bool} {ic : Str → Bool} {n : Nat} {y : DV} {c : Str} {l : List (Str × DV)} : eqR mt nf ic n y (some (.ins c l)) S = eqM (mt c "__eq__") (tyOf S y) nf ic c (.ref n) y S := Eq.trans rfl rfl
@[simp] theorem eqR_l {mt : Str → Str → Option DFn} {nf : Str → TyN → Bool} {ic : Str → Bool} {n : Nat} {y : DV} {l : List DV} : eqR mt nf ic n y (some (.lst l)) S = oEq false (.ref n) y S := Eq.trans rfl rfl
theorem eqF_r {mt : Str → Str → Option DFn} {nf : Str → TyN → Bool} {ic : Str → Bool} {n : Nat} {y : DV} : oEqF mt nf ic (.ref n) y S = eqR mt nf ic n y S[n]? S := by
  cases h : S[n]? with
  | none => simp only [oEqF, isIns, h]; rfl
  | some o =>
    cases o with
    | ins c fs =>
      simp only [oEqF, isIns, h, if_true, oEqO]
      show _ = eqM (mt c "__eq__") (tyOf S y) nf ic c (.ref n) y S
      cases mt c "__eq__" with
      | none => rfl
      | some g =>
        cases tyOf S y with
        | none => rfl
        | some t =>
          dsimp only [eqM]
          cases nf c t <;> cases icT ic t <;> first | rfl | (cases g [.ref n, y] S <;> rfl)
    | _ => simp only [oEqF, isIns, h]; rfl
@[simp] theorem icT_bi {ic : Str → Bool} {n : String} : icT ic (.bi n) = true := Eq.trans rfl rfl
@[simp] theorem icT_own {ic : Str → Bool} {n : Str} : icT ic (.own n) = ic n := Eq.trans rfl rfl
@[simp] theorem ic_Rule : CWP.ic "Rule" = true := Eq.trans (by kernel_rfl) rfl
@[simp] theorem nfR_non : CWP.nf "Rule" (.bi "NoneType") = true := Eq.trans (by kernel_rfl) rfl
@[simp] theorem nfR_bool : CWP.nf "Rule" (.bi "bool") = true := Eq.trans (by kernel_rfl) rfl
@[simp] theorem nfR_int : CWP.nf "Rule" (.bi "int") = true := Eq.trans (by kernel_rfl) rfl
@[simp] theorem nfR_str : CWP.nf "Rule" (.bi "str") = true := Eq.trans (by kernel_rfl) rfl
@[simp] theorem nfR_tuple : CWP.nf "Rule" (.bi "tuple") = true := Eq.trans (by kernel_rfl) rfl
@[simp] theorem nfR_list : CWP.nf "Rule" (.bi "list") = true := Eq.trans (by kernel_rfl) rfl
@[simp] theorem nfR_Rule : CWP.nf "Rule" (.own "Rule") = true := Eq.trans (by kernel_rfl) rfl
theorem cares_ok {n : Nat} {c r w : DV} (h : S[n]? = some (ruleO c r w)) : b_Rule_cares [.ref n] S = .ok c S := by
  unfold ruleO at h
  simp [b_Rule_cares, h]
theorem rest_ok {n : Nat} {c r w : DV} (h : S[n]? = some (ruleO c r w)) : b_Rule_rest [.ref n] S = .ok r S := by
  unfold ruleO at h
  simp [b_Rule_rest, h]
theorem works_ok {n : Nat} {c r w : DV} (h : S[n]? = some (ruleO c r w)) : b_Rule_works [.ref n] S = .ok w S := by
  unfold ruleO at h
  simp [b_Rule_works, h]
theorem Ret_step {a b : SM} {d : DV} (h : ∀ rest : SM, rest = b → RetB (a Γ S) rest d) : Ret (mSeq a b) Γ S d := Ret_seq.mpr (h b rfl)
/-! == of flat values -/
@[simp] theorem eq_nn {neg : Bool} : oEq neg .non .non S = .ok (.bl (neg ^^ true)) S := Eq.trans rfl rfl
@[simp] theorem eq_nb {neg : Bool} {y : Bool} : oEq neg .non (.bl y) S = .ok (.bl (neg ^^ false)) S := Eq.trans rfl rfl
@[simp] theorem eq_ni {neg : Bool} {y : Int} : oEq neg .non (.int y) S = .ok (.bl (neg ^^ false)) S := Eq.trans rfl rfl
@[simp] theorem eq_ns {neg : Bool} {y : Str} : oEq neg .non (.str y) S = .ok (.bl (neg ^^ false)) S := Eq.trans rfl rfl
@[simp] theorem eq_bn {neg : Bool} {x : Bool} : oEq neg (.bl x) .non S = .ok (.bl (neg ^^ false)) S := Eq.trans rfl rfl
@[simp] theorem eq_bb {neg : Bool} {x : Bool} {y : Bool} : oEq neg (.bl x) (.bl y) S = .ok (.bl (neg ^^ decide (x = y))) S := Eq.trans rfl rfl
@[simp] theorem eq_bi {neg : Bool} {x : Bool} {y : Int} : oEq neg (.bl x) (.int y) S = .ok (.bl (neg ^^ decide ((if x then 1 else 0) = y))) S := Eq.trans rfl rfl
@[simp] theorem eq_bs {neg : Bool} {x : Bool} {y : Str} : oEq neg (.bl x) (.str y) S = .ok (.bl (neg ^^ false)) S := Eq.trans rfl rfl
@[simp] theorem eq_in {neg : Bool} {x : Int} : oEq neg (.int x) .non S = .ok (.bl (neg ^^ false)) S := Eq.trans rfl rfl
@[simp] theorem eq_ib {neg : Bool} {x : Int} {y : Bool} : oEq neg (.int x) (.bl y) S = .ok (.bl (neg ^^ decide (x = (if y then 1 else 0)))) S := Eq.trans rfl rfl
@[simp] theorem eq_ii {neg : Bool} {x : Int} {y : Int} : oEq neg (.int x) (.int y) S = .ok (.bl (neg ^^ decide (x = y))) S := Eq.trans rfl rfl
@[simp] theorem eq_is {neg : Bool} {x : Int} {y : Str} : oEq neg (.int x) (.str y) S = .ok (.bl (neg ^^ false)) S := Eq.trans rfl rfl
@[simp] theorem eq_sn {neg : Bool} {x : Str} : oEq neg (.str x) .non S = .ok (.bl (neg ^^ false)) S := Eq.trans rfl rfl
@[simp] theorem eq_sb {neg : Bool} {x : Str} {y : Bool} : oEq neg (.str x) (.bl y) S = .ok (.bl (neg ^^ false)) S := Eq.trans rfl rfl
@[simp] theorem eq_si {neg : Bool} {x : Str} {y : Int} : oEq neg (.str x) (.int y) S = .ok (.bl (neg ^^ false)) S := Eq.trans rfl rfl
@[simp] theorem eq_ss {neg : Bool} {x : Str} {y : Str} : oEq neg (.str x) (.str y) S = .ok (.bl (neg ^^ decide (x = y))) S := Eq.trans rfl rfl
@[simp] theorem eqFl_n {mt : Str → Str → Option DFn} {nf : Str → TyN → Bool} {ic : Str → Bool} {y : DV} : oEqF mt nf ic .non y S = oEq false .non y S := Eq.trans rfl rfl
@[simp] theorem eqFl_b {mt : Str → Str → Option DFn} {nf : Str → TyN → Bool} {ic : Str → Bool} {x : Bool} {y : DV} : oEqF mt nf ic (.bl x) y S = oEq false (.bl x) y S := Eq.trans rfl rfl
@[simp] theorem eqFl_i {mt : Str → Str → Option DFn} {nf : Str → TyN → Bool} {ic : Str → Bool} {x : Int} {y : DV} : oEqF mt nf ic (.int x) y S = oEq false (.int x) y S := Eq.trans rfl rfl
@[simp] theorem eqFl_s {mt : Str → Str → Option DFn} {nf : Str → TyN → Bool} {ic : Str → Bool} {x : Str} {y : DV} : oEqF mt nf ic (.str x) y S = oEq false (.str x) y S := Eq.trans rfl rfl
@[simp] theorem eqFl_t {mt : Str → Str → Option DFn} {nf : Str → TyN → Bool} {ic : Str → Bool} {l : List DV} {y : DV} : oEqF mt nf ic (.tup l) y S = oEq false (.tup l) y S := Eq.trans rfl rfl
def oEq0 : Bool → DV → DV → DM DV := oEq
def eqL (neg : Bool) (a b : Nat) (x y : Option DO) (S : DS) : DR DV := match x, y with
  | some (.lst l), some (.lst m) => if pdBs 11 l = true ∧ pdBs 11 m = true then .ok (.bl (neg ^^ decide (l = m))) S else oEq0 neg (.ref a) (.ref b) S
  | _, _ => oEq0 neg (.ref a) (.ref b) S
@[simp] theorem eqL_l {neg : Bool} {a b : Nat} {l m : List DV} : eqL neg a b (some (.lst l)) (some (.lst m)) S = if pdBs 11 l = true ∧ pdBs 11 m = true then .ok (.bl (neg ^^ decide (l = m))) S else oEq0 neg (.ref a) (.ref b) S := Eq.trans rfl rfl
theorem eq_rr {neg : Bool} {a b : Nat} : oEq neg (.ref a) (.ref b) S = eqL neg a b S[a]? S[b]? S := by
  cases ha : S[a]? with
  | none => rfl
  | some x =>
    cases hb : S[b]? with
    | none => cases x <;> rfl
    | some y =>
      cases x with
      | lst l =>
        cases y with
        | lst m =>
          rw [eqL_l]
          by_cases z : pdBs 11 l = true ∧ pdBs 11 m = true
          · rw [if_pos z, eq_lsts ha hb z.1 z.2]
          · rw [if_neg z]
            rfl
        | _ => rfl
      | _ => rfl
/-! ### slices, in -/
@[simp] theorem mNoP_ap : mNoP Γ S = .ok none S := Eq.trans rfl rfl
def partK (d : DV) (S1 : DS) : DR (Option Int) := match d with
  | .int i => .ok (some i) S1
  | _ => .bad
@[simp] theorem partK_i {i : Int} : partK (.int i) S = .ok (some i) S := Eq.trans rfl rfl
@[simp] theorem mPart_ap {m : EM} : mPart m Γ S = (m Γ S).bnd partK := Eq.trans rfl rfl
@[simp] theorem mSl_ap {m : EM} {lo hi : OM} : mSl m lo hi Γ S = (m Γ S).bnd fun x S1 => (lo Γ S1).bnd fun l S2 => (hi Γ S2).bnd fun h S3 => oSl x l h S3 := Eq.trans rfl rfl
def slK (o : Option DO) (lo hi : Option Int) (S : DS) : DR DV := match o with
  | some (.lst l) => newLst (cutD l lo hi) S
  | _ => .bad
@[simp] theorem slK_l {l : List DV} {lo hi : Option Int} : slK (some (.lst l)) lo hi S = newLst (cutD l lo hi) S := Eq.trans rfl rfl
@[simp] theorem sl_r {n : Nat} {lo hi : Option Int} : oSl (.ref n) lo hi S = slK S[n]? lo hi S := Eq.trans rfl rfl
@[simp] theorem sl_t {l : List DV} {lo hi : Option Int} : oSl (.tup l) lo hi S = .ok (.tup (cutD l lo hi)) S := Eq.trans rfl rfl
@[simp] theorem sl_s {z : Str} {lo hi : Option Int} : oSl (.str z) lo hi S = if z.length ≤ sizeLine then .ok (.str (cutS z lo hi)) S else .bad := Eq.trans rfl rfl
theorem cut_from {l : List DV} {k : Nat} (h : k ≤ l.length) : cutD l (some (k : Int)) none = l.drop k := by
  unfold cutD
  rw [HT.sIx_nat, HT.sIx_none, Nat.min_eq_left h]
  exact List.take_of_length_le (by simp)
theorem cut_to {l : List DV} {k : Nat} (h : k ≤ l.length) : cutD l none (some (k : Int)) = l.take k := by
  unfold cutD
  rw [HT.sIx_nat, HT.sIx_none, Nat.min_eq_left h]
  simp
theorem cut_mid {l : List DV} {i k : Nat} (hi : i ≤ k) (h : k ≤ l.length) : cutD l (some (i : Int)) (some (k : Int)) = (l.drop i).take (k - i) := by
  unfold cutD
  rw [HT.sIx_nat, HT.sIx_nat, Nat.min_eq_left h, Nat.min_eq_left (Nat.le_trans hi h)]
@[simp] theorem cut_1 {a : DV} {l : List DV} : cutD (a :: l) (some 1) none = l := cut_from (k := 1) (by simp)
theorem cut_last {l : List DV} {a : DV} : cutD (l ++ [a]) none (some (-1)) = l := by
  have e : HT.sIx (l ++ [a]).length (l ++ [a]).length (some (-1)) = l.length := by
    show (if (-1 : Int) < 0 then ((-1 : Int) + ((l ++ [a]).length : Int)).toNat else min (-1 : Int).toNat (l ++ [a]).length) = l.length
    rw [if_pos (by decide), List.length_append]
    simp only [List.length_cons, List.length_nil]
    omega
  unfold cutD
  rw [e, HT.sIx_none]
  simp
theorem eqF_strs {x : Str} {known : List Str} : (known.map DV.str).any (fun z => eqF z (.str x)) = decide (x ∈ known) := by
  induction known with
  | nil => simp
  | cons k known ih =>
    rw [List.map_cons, List.any_cons, ih]
    have e : eqF (.str k) (.str x) = decide (x = k) := by
      show decide (k = x) = decide (x = k)
      exact decide_eq_decide.mpr ⟨Eq.symm, Eq.symm⟩
    rw [e, Bool.eq_iff_iff, Bool.or_eq_true, decide_eq_true_eq, decide_eq_true_eq, decide_eq_true_eq, List.mem_cons]
theorem all_flat_strs {known : List Str} : (known.map DV.str).all flatD = true := by simp [flatD]
theorem in_strs {neg : Bool} {x : Str} {known : List Str} : oInA neg (.str x) (.tup (known.map .str)) S = .ok (.bl (neg ^^ decide (x ∈ known))) S := by
  show oIn neg (.str x) (.tup (known.map .str)) S = _
  unfold oIn
  have e : inS S (.str x) (.tup (known.map .str)) = some (decide (x ∈ known)) := by
    show (if (flatD (.str x) && (known.map DV.str).all flatD) = true then some ((known.map DV.str).any fun z => eqF z (.str x)) else _) = _
    rw [if_pos (by rw [all_flat_strs]; rfl), eqF_strs]
  rw [e]
theorem in_strs_l {neg : Bool} {x : Str} {known : List Str} {n : Nat} (h : S[n]? = some (.lst (known.map .str))) : oInA neg (.str x) (.ref n) S = .ok (.bl (neg ^^ decide (x ∈ known))) S := by
  have e0 : oInA neg (.str x) (.ref n) S = oIn neg (.str x) (.ref n) S := by
    unfold oInA
    simp only [h]
  rw [e0]
  unfold oIn
  have e : inS S (.str x) (.ref n) = some (decide (x ∈ known)) := by
    show (match itemsOf S (.ref n) with | some l => if (flatD (.str x) && l.all flatD) = true then some (l.any fun z => eqF z (.str x)) else _ | none => none) = _
    rw [items_r, h]
    show (if (flatD (.str x) && (known.map DV.str).all flatD) = true then some ((known.map DV.str).any fun z => eqF z (.str x)) else _) = _
    rw [if_pos (by rw [all_flat_strs]; rfl), eqF_strs]
  rw [e]
/-! ### sorted(set(..)) -/
def setK3 (o : Option (List Str)) (S : DS) : DR DV := match o with
  | some ks => if ks.length + 1 < scanBound then newLst ((sortX ks).map .str) S else .bad
  | none => .bad
@[simp] theorem setK3_s {ks : List Str} : setK3 (some ks) S = if ks.length + 1 < scanBound then newLst ((sortX ks).map .str) S else .bad := Eq.trans rfl rfl
def setK2 (o : Option (List DV)) (S : DS) : DR DV := match o with
  | some l => setK3 (strsD l) S
  | none => .bad
@[simp] theorem setK2_s {l : List DV} : setK2 (some l) S = setK3 (strsD l) S := Eq.trans rfl rfl
def setK1 (ds : List DV) (S : DS) : DR DV := match ds with
  | [d] => setK2 (itemsOf S d) S
  | _ => .bad
@[simp] theorem setK1_1 {d : DV} : setK1 [d] S = setK2 (itemsOf S d) S := Eq.trans rfl rfl
theorem sort_ap {m : AM} : mSortSet m Γ S = (m Γ S).bnd setK1 := Eq.trans rfl rfl
theorem lt_scan {n : Nat} (h : n ≤ 1000) : (n + 1 < scanBound) = True := eq_true (Nat.lt_of_le_of_lt (Nat.succ_le_succ h) (by decide))
end
end KN
set_option maxHeartbeats 200000
namespace KN
open PySem PySem.Spec PyProof.Rows L2
section
variable {S : DS}
theorem all_map {γ : Type} {f : γ → Bool} {l : List γ} : (l.map f).all id = l.all f := by simp [List.all_map]
theorem eq_lit (a b : String) (ha : PyData.strOk (Str.ofString a) = true) (hb : PyData.strOk (Str.ofString b) = true) {mt : Str → Str → Option DFn} {nf : Str → TyN → Bool} {ic : Str → Bool} : oEqF mt nf ic (.str (Str.ofString a)) (.str (Str.ofString b)) S = .ok (.bl (decide (a = b))) S := by
  rw [eqf_pd (x := .str _) (y := .str _) (by simpa [pdB] using ha) (by simpa [pdB] using hb)]
  simp
theorem eqf_lsts {mt : Str → Str → Option DFn} {nf : Str → TyN → Bool} {ic : Str → Bool} {a b : Nat} {x y : List DV} (ha : S[a]? = some (.lst x)) (hb : S[b]? = some (.lst y)) (px : pdBs 11 x = true) (py : pdBs 11 y = true) : oEqF mt nf ic (.ref a) (.ref b) S = .ok (.bl (decide (x = y))) S := by
  unfold oEqF
  rw [if_neg (by simp [isIns, ha]), eq_lsts ha hb px py]
  simp
theorem str_map_inj {a b : List Str} (h : a.map DV.str = b.map DV.str) : a = b := List.map_inj_right (fun _ _ e => by cases e; rfl) |>.mp h
theorem pdl {a : String} (h : PyData.strOk (Str.ofString a) = true) : pdB 12 (.str (Str.ofString a)) = true := by simpa [pdB] using h
theorem goodP.ok {c r w : DV} (g : goodP c r w) (S : DS) : okV S c ∧ okV S r ∧ okV S w := by
  obtain ⟨cs, i, ws, rfl, rfl, rfl, h1, h2⟩ := g
  refine ⟨fun d hd => ?_, trivial, fun d hd => ?_⟩
  · obtain ⟨x, hx, rfl⟩ := List.mem_map.mp hd
    exact ⟨rfl, by simpa [pdB] using okc x (h1 x hx)⟩
  · obtain ⟨x, hx, rfl⟩ := List.mem_map.mp hd
    exact ⟨rfl, by simpa [pdB] using okw x (h2 x hx)⟩
theorem sortX_self {l : List Str} (hp : (allX l).isPerm l = true) (hs : l.Pairwise fun a b => leX a b = true) : l = sortX l :=
  (List.Perm.eq_of_pairwise (le := fun a b => leX a b = true) (fun a b _ _ h1 h2 => leX_anti a b h1 h2) (List.pairwise_mergeSort leX_trans leX_total _) hs ((List.mergeSort_perm _ _).trans (List.isPerm_iff.mp hp))).symm
theorem sub_sort {cs : List Str} (h : cs.Sublist wCares) : cs = sortX cs := by
  simp only [wCares, List.sublist_cons_iff, List.sublist_nil] at h
  have key : ∀ l ∈ [([] : List Str), ["take"], ["renumber"], ["renumber", "take"], ["rename"], ["rename", "take"], ["rename", "renumber"], ["rename", "renumber", "take"], ["copy"], ["copy", "take"], ["copy", "renumber"], ["copy", "renumber", "take"], ["copy", "rename"], ["copy", "rename", "take"], ["copy", "rename", "renumber"], ["copy", "rename", "renumber", "take"]], (allX l).isPerm l = true ∧ l.Pairwise fun a b => leX a b = true := by decide +kernel
  suffices z : cs ∈ [([] : List Str), ["take"], ["renumber"], ["renumber", "take"], ["rename"], ["rename", "take"], ["rename", "renumber"], ["rename", "renumber", "take"], ["copy"], ["copy", "take"], ["copy", "renumber"], ["copy", "renumber", "take"], ["copy", "rename"], ["copy", "rename", "take"], ["copy", "rename", "renumber"], ["copy", "rename", "renumber", "take"]] from sortX_self (key _ z).1 (key _ z).2
  rcases h with ((((h | ⟨r, rfl, h⟩) | ⟨r, rfl, (h | ⟨r, rfl, h⟩)⟩) | ⟨r, rfl, ((h | ⟨r, rfl, h⟩) | ⟨r, rfl, (h | ⟨r, rfl, h⟩)⟩)⟩) | ⟨r, rfl, (((h | ⟨r, rfl, h⟩) | ⟨r, rfl, (h | ⟨r, rfl, h⟩)⟩) | ⟨r, rfl, ((h | ⟨r, rfl, h⟩) | ⟨r, rfl, (h | ⟨r, rfl, h⟩)⟩)⟩)⟩) <;> subst h <;> simp
theorem strs_map : ∀ l : List Str, strsD (l.map DV.str) = some l
  | [] => rfl
  | x :: l => by rw [List.map_cons, strsD, strs_map l]; rfl
theorem drawn_good {cs ws : List Str} {r : Int} {N : Int} (h : cs.Sublist wCares) (h0 : 0 ≤ r) (h2 : r ≤ 2) (w1 : 1 ≤ ws.length) (w2 : (ws.length : Int) ≤ 3) (w3 : ∀ w ∈ ws, w ∈ wWorks) :
    gCares (.tup (cs.map .str)) = true ∧ gRest (.int r) = true ∧ gWorks (.tup (ws.map .str)) = true ∧ shortV (.tup (cs.map .str)) ∧ shortV (.tup (ws.map .str)) := by
  have hl := h.length_le
  refine ⟨?_, by simp [gRest, h0, h2], ?_, ?_, ?_⟩
  · unfold gCares areW strsOf
    simp only [strs_map, List.all_map, Option.getD_some, Bool.and_eq_true, List.all_eq_true, decide_eq_true_eq]
    exact ⟨fun x hx => by simpa [strIn] using h.subset hx, sub_sort h⟩
  · unfold gWorks areW lenD
    simp only [List.all_map, Bool.and_eq_true, List.all_eq_true, decide_eq_true_eq, List.length_map]
    exact ⟨fun x hx => by simpa [strIn] using w3 x hx, w1, by omega⟩
  · intro l hl'
    cases hl'
    simp [wCares] at hl ⊢
    omega
  · intro l hl'
    cases hl'
    simp
    omega
theorem law_rule_ok {c r w : DV} (g1 : gCares c = true) (g2 : gRest r = true) (g3 : gWorks w = true) (lc : shortV c) (lw : shortV w) : ∃ J, b__law_rule [.tup [c, r, w]] S = .ok (.ref S.length) (S ++ ruleO c r w :: J) := by
  have gp := good_of g1 g2 g3
  obtain ⟨J, e⟩ := rule_good (S := S) (n := S.length) rfl (fun J => (gp.ok _).1) (fun J => (gp.ok _).2.1) (fun J => (gp.ok _).2.2) lc lw g1 g2 g3
  exact ⟨J, by simp [b__law_rule, e]⟩
theorem Same.pd {n : Nat} : ∀ {x : DV}, pdB n x = true → (∀ l, x = .tup l → l.length ≤ 1000 ∧ ∀ d ∈ l, okF d) → Same S (n + 1) x x := fun {x} h hl => by
  cases x with
  | tup l => exact .inr (.inl ⟨l, l, rfl, rfl, rfl, (hl l rfl).1, fun i a b ha hb => by
      rw [ha] at hb
      cases hb
      have := (hl l rfl).2 a (List.mem_of_getElem? ha)
      cases n <;> first | exact ⟨this, rfl⟩ | exact .inl ⟨this, rfl⟩⟩)
  | ref k => cases n <;> simp [pdB] at h
  | scr k => cases n <;> simp [pdB] at h
  | str z => exact .inl ⟨⟨rfl, fun y e => by cases e; cases n <;> simpa [pdB] using h⟩, rfl⟩
  | _ => exact .inl ⟨⟨rfl, fun y e => by cases e⟩, rfl⟩
theorem same_parts {c r w : DV} {p q : Nat} (g : goodP c r w) (lc : shortV c) (lw : shortV w) (h1 : S[p]? = some (.lst [c, r, w])) (h2 : S[q]? = some (.lst [c, r, w])) : ∃ J, b__law_equal 40 [.ref p, .ref q] S = .ok (.bl true) (S ++ J) := by
  refine equal_ok (n := 39) (Same.le (n := 14) (by decide) (.inr (.inr ⟨p, q, [c, r, w], [c, r, w], rfl, rfl, h1, h2, rfl, by simp, fun i a b ha hb => ?_⟩)))
  rw [ha] at hb
  cases hb
  obtain ⟨p1, p2, p3⟩ := g.pd
  obtain ⟨cs, i', ws, rfl, rfl, rfl, k1, k2⟩ := g
  have m := List.mem_of_getElem? ha
  simp only [List.mem_cons, List.not_mem_nil, or_false] at m
  have flat : ∀ {known ks : List Str}, okW known → (∀ x ∈ ks, x ∈ known) → ∀ d ∈ ks.map DV.str, okF d := fun ho hk d hd => by
    obtain ⟨x, hx, rfl⟩ := List.mem_map.mp hd
    exact ⟨rfl, fun z e => by cases e; exact ho _ (hk _ hx)⟩
  rcases m with rfl | rfl | rfl
  · exact Same.pd p1 fun l hl => by cases hl; exact ⟨lc _ rfl, flat okc k1⟩
  · exact Same.pd p2 fun l hl => by cases hl
  · exact Same.pd p3 fun l hl => by cases hl; exact ⟨lw _ rfl, flat okw k2⟩
theorem pd_tup1 {known cs : List Str} (ho : okW known) (h : ∀ x ∈ cs, x ∈ known) : pdB 11 (.tup (cs.map .str)) = true := by
  rw [pdB]
  refine pdBs_iff.mpr fun d hd => ?_
  obtain ⟨x, hx, rfl⟩ := List.mem_map.mp hd
  simpa [pdB] using ho x (h x hx)
theorem goodP.pd1 {c r w : DV} (h : goodP c r w) : pdB 11 c = true ∧ pdB 11 r = true ∧ pdB 11 w = true := by
  obtain ⟨cs, i, ws, rfl, rfl, rfl, h1, h2⟩ := h
  exact ⟨pd_tup1 okc h1, by rfl, pd_tup1 okw h2⟩
end
end KN
set_option maxHeartbeats 200000
namespace KN
open PySem PySem.Spec PyProof.Rows L2
/-! ### texts cut at a sign -/
theorem spl_props (c : Nat) : ∀ (a acc : List Nat), TL.spl [c] 0 acc a ≠ [] ∧ (TL.spl [c] 0 acc a).length ≤ a.length + 1 ∧ ∀ p ∈ TL.spl [c] 0 acc a, p.length ≤ acc.length + a.length ∧ ∀ x ∈ p, x ∈ acc ∨ x ∈ a
  | [], acc => by
    rw [TL.spl_nil]
    refine ⟨by simp, by simp, fun p hp => ?_⟩
    rw [List.mem_singleton] at hp
    subst hp
    exact ⟨by simp, fun x hx => .inl hx⟩
  | d :: r, acc => by
    rw [TL.spl]
    split
    · obtain ⟨h1, h2, h3⟩ := spl_props c r []
      refine ⟨by simp, by simpa using h2, fun p hp => ?_⟩
      rcases List.mem_cons.mp hp with rfl | hp
      · exact ⟨by simp, fun x hx => .inl hx⟩
      · obtain ⟨k1, k2⟩ := h3 p hp
        refine ⟨by simp at k1 ⊢; omega, fun x hx => ?_⟩
        rcases k2 x hx with h | h
        · cases h
        · exact .inr (List.mem_cons_of_mem _ h)
    · obtain ⟨h1, h2, h3⟩ := spl_props c r (acc ++ [d])
      refine ⟨h1, by simp at h2 ⊢; omega, fun p hp => ?_⟩
      obtain ⟨k1, k2⟩ := h3 p hp
      refine ⟨by simp at k1 ⊢; omega, fun x hx => ?_⟩
      rcases k2 x hx with h | h
      · rcases List.mem_append.mp h with h | h
        · exact .inl h
        · rw [List.mem_singleton] at h
          exact .inr (by rw [h]; exact List.mem_cons_self ..)
      · exact .inr (List.mem_cons_of_mem _ h)
def isSep (sep : Str) : Prop := sep = " " ∨ sep = "\n"
theorem sep_code {sep : Str} (h : isSep sep) : ∃ c, c < 256 ∧ sep = SX.S [c] := by
  rcases h with rfl | rfl
  · exact ⟨32, by decide, by rfl⟩
  · exact ⟨10, by decide, by rfl⟩
theorem split_codes {sep : Str} (h : isSep sep) (x : Str) : ∃ c, c < 256 ∧ sep = SX.S [c] ∧ Txt.split x sep = (TL.spl [c] 0 [] x.cps.toList).map SX.S := by
  obtain ⟨c, hc, rfl⟩ := sep_code h
  refine ⟨c, hc, rfl, ?_⟩
  have e := SX.split_S (a := x.cps.toList) (b := [c]) (by simp) (by simpa using hc)
  rw [SX.S_tl] at e
  exact e
theorem ok_codes {x : Str} : PyData.strOk x = true ↔ ∀ c ∈ x.cps.toList, c < 0x110000 := by
  unfold PyData.strOk
  rw [← Array.all_toList, List.all_eq_true]
  exact ⟨fun h c hc => of_decide_eq_true (h c hc), fun h c hc => decide_eq_true (h c hc)⟩
/-- so long at most, and of signs -/
def okT (n : Nat) (x : Str) : Prop := x.length ≤ n ∧ PyData.strOk x = true
theorem len_codes (x : Str) : x.length = x.cps.toList.length := by simp [Str.length]
theorem split_ok {sep x : Str} {n : Nat} (h : isSep sep) (hx : okT n x) : Txt.split x sep ≠ [] ∧ (Txt.split x sep).length ≤ n + 1 ∧ ∀ y ∈ Txt.split x sep, okT n y := by
  obtain ⟨c, _, _, e⟩ := split_codes h x
  obtain ⟨h1, h2, h3⟩ := spl_props c x.cps.toList []
  rw [e]
  have hl := hx.1
  rw [len_codes] at hl
  refine ⟨by simpa using h1, by rw [List.length_map]; omega, fun y hy => ?_⟩
  obtain ⟨p, hp, rfl⟩ := List.mem_map.mp hy
  obtain ⟨k1, k2⟩ := h3 p hp
  refine ⟨by rw [SX.S_len]; have k3 : p.length ≤ x.cps.toList.length := by simpa only [List.length_nil, Nat.zero_add] using k1
             omega, ok_codes.mpr fun d hd => ?_⟩
  rcases k2 d hd with z | z
  · cases z
  · exact ok_codes.mp hx.2 d z
theorem cat_ok {x y : Str} {n m : Nat} (hx : okT n x) (hy : okT m y) : okT (n + m) (x ++ y) := by
  refine ⟨by rw [Str.length_append]; have := hx.1; have := hy.1; omega, ok_codes.mpr fun d hd => ?_⟩
  have e : (x ++ y).cps.toList = x.cps.toList ++ y.cps.toList := TL.tl_append x y
  rw [e] at hd
  rcases List.mem_append.mp hd with z | z
  · exact ok_codes.mp hx.2 d z
  · exact ok_codes.mp hy.2 d z
theorem joinL_mem {sep : List Nat} {d : Nat} : ∀ {ys : List (List Nat)}, d ∈ TL.joinL sep ys → d ∈ sep ∨ ∃ y ∈ ys, d ∈ y
  | [], h => by cases h
  | [p], h => .inr ⟨p, by simp, h⟩
  | p :: q :: r, h => by
    have h' : d ∈ p ++ (sep ++ TL.joinL sep (q :: r)) := h
    rcases List.mem_append.mp h' with h | h
    · exact .inr ⟨p, by simp, h⟩
    rcases List.mem_append.mp h with h | h
    · exact .inl h
    · rcases joinL_mem h with h | ⟨y, hy, h⟩
      · exact .inl h
      · exact .inr ⟨y, List.mem_cons_of_mem _ hy, h⟩
theorem joinL_len {sep : List Nat} {n : Nat} : ∀ {ys : List (List Nat)}, (∀ y ∈ ys, y.length ≤ n) → (TL.joinL sep ys).length ≤ ys.length * (n + sep.length)
  | [], _ => by simp [TL.joinL]
  | [p], h => by
    have := h p (by simp)
    show p.length ≤ _
    simp
    omega
  | p :: q :: r, h => by
    have h1 := h p (by simp)
    have h2 := joinL_len (sep := sep) (ys := q :: r) fun y hy => h y (List.mem_cons_of_mem _ hy)
    show (p ++ (sep ++ TL.joinL sep (q :: r))).length ≤ _
    rw [List.length_append, List.length_append, List.length_cons, Nat.succ_mul]
    omega
theorem join_codes (sep : Str) (ys : List Str) : Txt.join sep ys = SX.S (TL.joinL sep.cps.toList (ys.map fun y => y.cps.toList)) := by
  have e := SX.join_S sep.cps.toList (ys.map fun y => y.cps.toList)
  rw [SX.S_tl, List.map_map] at e
  have e2 : ys.map (SX.S ∘ fun y => y.cps.toList) = ys := by
    conv => rhs; rw [← List.map_id ys]
    exact List.map_congr_left fun y _ => SX.S_tl y
  rw [e2] at e
  exact e
theorem join_ok {sep : Str} {ys : List Str} {n m k : Nat} (hs : okT m sep) (hy : ∀ y ∈ ys, okT n y) (hk : ys.length ≤ k) : okT (k * (n + m)) (Txt.join sep ys) := by
  rw [join_codes]
  refine ⟨?_, ok_codes.mpr fun d hd => ?_⟩
  · rw [SX.S_len]
    have h := joinL_len (sep := sep.cps.toList) (ys := ys.map fun y => y.cps.toList) (n := n) fun p hp => by
      obtain ⟨y, hy', rfl⟩ := List.mem_map.mp hp
      have := (hy y hy').1
      rwa [len_codes] at this
    have h2 := hs.1
    rw [len_codes] at h2
    rw [List.length_map] at h
    exact Nat.le_trans h (Nat.mul_le_mul hk (by omega))
  · rcases joinL_mem hd with h | ⟨p, hp, h⟩
    · exact ok_codes.mp hs.2 d h
    · obtain ⟨y, hy', rfl⟩ := List.mem_map.mp hp
      exact ok_codes.mp (hy y hy').2 d h
/-- cut again -/
theorem cut_join {sep : Str} (h : isSep sep) {ys : List Str} (hne : ys ≠ []) (hy : ∀ c, sep = SX.S [c] → ∀ y ∈ ys, c ∉ y.cps.toList) : Txt.split (Txt.join sep ys) sep = ys := by
  obtain ⟨c, _, e1, e2⟩ := split_codes h (Txt.join sep ys)
  rw [e2, join_codes, e1]
  have e3 := SX.spl_join (c := c) (sep := []) (parts := ys.map fun y => y.cps.toList) (by simpa using hne) fun p hp => by
    obtain ⟨y, hy', rfl⟩ := List.mem_map.mp hp
    exact hy c e1 y hy'
  show (TL.spl [c] 0 [] (TL.joinL [c] (ys.map fun y => y.cps.toList))).map SX.S = ys
  rw [e3, List.map_map]
  conv => rhs; rw [← List.map_id ys]
  exact List.map_congr_left fun y _ => SX.S_tl y
end KN
set_option maxHeartbeats 200000
namespace KN
open PySem PySem.Spec PyProof.Rows L2
section
variable {S : DS}
/-! ### a line's words -/
def memB (known : List Str) (x : Str) : Bool := decide (x ∈ known)
theorem words_all {known ks : List Str} {kd : List DV} {r : Nat} {x0 x1 x2 : Option DV} (hk : kd = known.map .str) (hr : S[r]? = some (.lst (ks.map .str))) (hl : ks.length ≤ 10000000) :
    lcL S.length (gSet 4) mYes (mBin (oInA false) (mVar 4) (mCst (.tup kd))) (.lst r (ks.map .str)) [x0, x1, x2, none, none] (ks.map .str) (S ++ [.lst []]) = .ok () (S ++ [.lst (ks.map fun x => .bl (memB known x))]) := by
  subst hk
  have h3 := lc_pure (S := S) (tg := gSet 4) (t := mYes) (e := mBin (oInA false) (mVar 4) (mCst (.tup (known.map .str)))) (k := .lst r (ks.map .str)) (Γ0 := [x0, x1, x2, none, none]) (xs := ks.map .str) (acc := [])
    (f := fun d => some (.bl (strIn known d))) (fun acc => by simp [at_ext hr]) (by simp; exact Nat.le_trans hl (by decide)) (fun x hx acc => by
      obtain ⟨k, _, rfl⟩ := List.mem_map.mp hx
      simp [lcS, in_strs, strIn])
  rw [filterMap_some', List.map_map] at h3
  exact h3
def head_k : Nat → Str
  | 0 => "cares"
  | 1 => "rest"
  | _ => "works"
def restW : List Str := ["0", "1", "2"]
/-- a line as it should be -/
def rowR (k : Nat) (r : List Str) : Bool := if k = 0 then r.all (memB wCares) && decide (r = sortX r) else if k = 1 then decide (r.length = 1) && r.all (memB restW) else decide (1 ≤ r.length) && (decide (r.length ≤ 3) && r.all (memB wWorks))
def rowP (k : Nat) : List Str → Bool
  | [] => false
  | w :: r => decide (w = head_k k) && rowR k r
theorem bls_dec {γ : Type} {f : γ → Bool} {l : List γ} : blsOf (l.map fun x => .bl (f x)) = some (l.map f) := bls_map
theorem all_id {γ : Type} {f : γ → Bool} {l : List γ} : (l.map f).all id = l.all f := by rw [List.all_map]; rfl
theorem pd_words {known ks : List Str} (ho : okW known) (h : ks.all (memB known) = true) : pdBs 11 (ks.map DV.str) = true := pdBs_iff.mpr fun d hd => by
  obtain ⟨x, hx, rfl⟩ := List.mem_map.mp hd
  simpa [pdB] using ho x (of_decide_eq_true (List.all_eq_true.mp h x hx))
theorem strs_eq {a b : List Str} : (a.map DV.str = b.map DV.str) = (a = b) := propext ⟨str_map_inj, fun h => by rw [h]⟩
theorem right_0 {n : Nat} {w : Str} {r : List Str} (h : S[n]? = some (.lst ((w :: r).map .str))) (hl : r.length ≤ 10000000) (hs : memB ["cares"] w = true → r.all (memB wCares) = true → r.length ≤ 1000) : ∃ J, b_is_right_k12 [.str "cares", .ref n] S = .ok (.bl (rowP 0 (w :: r))) (S ++ J) := by
  rw [List.map_cons] at h
  by_cases hw : w = "cares"
  · subst hw
    have wa := words_all (S := S ++ [.lst (r.map .str)]) (kd := cares4) (known := wCares) (ks := r) (r := S.length) (x0 := some (.str "cares")) (x1 := some (.ref n)) (x2 := some (.ref S.length)) rfl (by simp) hl
    simp at wa
    by_cases ha : r.all (memB wCares) = true
    · have hb : (r.map (memB wCares)).all id = true := by rw [all_id]; exact ha
      have p1 := pd_words okc ha
      have p2 : pdBs 11 ((sortX r).map DV.str) = true := pd_words okc (List.all_eq_true.mpr fun x hx => List.all_eq_true.mp ha x (mem_sortX hx))
      have es := fun (Γ : DG) => sort_set (m := mCons (mVar 2) mNil) (Γ := some (.str "cares") :: some (.ref n) :: some (.ref S.length) :: Γ) (d := .ref S.length) (S1 := S ++ [.lst (r.map .str), .lst (r.map fun x => .bl (memB wCares x))]) (S := S ++ [.lst (r.map .str), .lst (r.map fun x => .bl (memB wCares x))]) (l := r.map .str) (ks := r) rfl (by simp) (strs_map r) (hs (by simp [memB]) ha)
      refine ⟨[.lst (r.map .str), .lst (r.map fun x => .bl (memB wCares x)), .lst ((sortX r).map .str)], ?_⟩
      simp [b_is_right_k12, h, wa, bls_dec, hb, es, eqF_r, eq_rr, p1, p2, strs_eq, rowP, rowR, head_k, ha, -lcL_cons, -List.all_map, -List.all_eq_true]
    · have ha' := Bool.eq_false_iff.mpr ha
      have hb : (r.map (memB wCares)).all id = false := by rw [all_id]; exact ha'
      refine ⟨[.lst (r.map .str), .lst (r.map fun x => .bl (memB wCares x))], ?_⟩
      simp [b_is_right_k12, h, wa, bls_dec, hb, rowP, rowR, head_k, ha', -lcL_cons, -List.all_map, -List.all_eq_true]
  · refine ⟨[], ?_⟩
    simp [b_is_right_k12, h, rowP, head_k, hw]
theorem right_1 {n : Nat} {w : Str} {r : List Str} (h : S[n]? = some (.lst ((w :: r).map .str))) : ∃ J, b_is_right_k12 [.str "rest", .ref n] S = .ok (.bl (rowP 1 (w :: r))) (S ++ J) := by
  rw [List.map_cons] at h
  by_cases hw : w = "rest"
  · subst hw
    refine ⟨[.lst (r.map .str)], ?_⟩
    match r with
    | [] => simp [b_is_right_k12, h, rowP, rowR, head_k]
    | [x] =>
      have i1 := fun (S : DS) => in_strs (S := S) (neg := false) (x := x) (known := restW)
      simp only [restW, List.map_cons, List.map_nil] at i1
      simp [b_is_right_k12, h, rowP, rowR, head_k, i1, memB, restW]
    | x :: y :: r =>
      have e : ¬ ((r.length : Int) + 1 + 1 = 1) := by omega
      simp [b_is_right_k12, h, rowP, rowR, head_k, e]
  · refine ⟨[], ?_⟩
    simp [b_is_right_k12, h, rowP, head_k, hw]
theorem right_2 {n : Nat} {w : Str} {r : List Str} (h : S[n]? = some (.lst ((w :: r).map .str))) (hl : r.length ≤ 10000000) : ∃ J, b_is_right_k12 [.str "works", .ref n] S = .ok (.bl (rowP 2 (w :: r))) (S ++ J) := by
  rw [List.map_cons] at h
  by_cases hw : w = "works"
  · subst hw
    have wa := words_all (S := S ++ [.lst (r.map .str)]) (kd := [.str "free", .str "sweep"]) (known := wWorks) (ks := r) (r := S.length) (x0 := some (.str "works")) (x1 := some (.ref n)) (x2 := some (.ref S.length)) rfl (by simp) hl
    simp at wa
    by_cases z1 : 1 ≤ r.length
    · have b1 : (1 : Int) ≤ (r.length : Int) := by omega
      by_cases z2 : r.length ≤ 3
      · have b2 : (r.length : Int) ≤ 3 := by omega
        have hb : (r.map (memB wWorks)).all id = r.all (memB wWorks) := all_id
        refine ⟨[.lst (r.map .str), .lst (r.map fun x => .bl (memB wWorks x))], ?_⟩
        simp [b_is_right_k12, h, wa, bls_dec, hb, b1, b2, z1, z2, rowP, rowR, head_k, -lcL_cons, -List.all_map, -List.all_eq_true]
      · have b2 : ¬ (r.length : Int) ≤ 3 := by omega
        refine ⟨[.lst (r.map .str)], ?_⟩
        simp [b_is_right_k12, h, b1, b2, z1, z2, rowP, rowR, head_k]
    · have b1 : ¬ (1 : Int) ≤ (r.length : Int) := by omega
      refine ⟨[.lst (r.map .str)], ?_⟩
      simp [b_is_right_k12, h, b1, z1, rowP, rowR, head_k]
  · refine ⟨[], ?_⟩
    simp [b_is_right_k12, h, rowP, head_k, hw]
/-! ### the law's own reader of a line -/
@[simp] theorem split_ap {a b : Str} : oSplit (.str a) [.str b] S = if (b.length == 0) = false ∧ a.length + 2 ≤ sizeLine then newLst ((Txt.split a b).map .str) S else .bad := Eq.trans rfl rfl
theorem sp_len : ((" " : Str).length == 0) = false := by decide +kernel
theorem nl_len : (("\n" : Str).length == 0) = false := by decide +kernel
theorem rest_mem {r : List Str} : rowR 1 r = decide (r ∈ [[("0" : Str)], ["1"], ["2"]]) := by
  unfold rowR
  rw [if_neg (by decide), if_pos rfl]
  match r with
  | [] => simp
  | [x] => simp [memB, restW]
  | x :: y :: r => simp
theorem pd_ok {n : Nat} {r : List Str} (h : ∀ y ∈ r, PyData.strOk y = true) : pdBs n (r.map DV.str) = true := pdBs_iff.mpr fun d hd => by
  obtain ⟨x, hx, rfl⟩ := List.mem_map.mp hd
  cases n <;> simpa [pdB] using h x hx
theorem toPDs_map {r : List Str} : toPDs (r.map DV.str) = r.map .str := by
  induction r with
  | nil => rfl
  | cons x r ih => rw [List.map_cons, List.map_cons, toPDs, toPD, ih]
theorem lst_data {a f : Nat} {r : List Str} (h : S[a]? = some (.lst (r.map .str))) (ho : ∀ y ∈ r, PyData.strOk y = true) : dData S (f + 2) (.ref a) = some (.list (r.map .str)) ∧ SeqAt.shaped (.list (r.map .str)) = true := by
  have p : pdBs 1 (r.map DV.str) = true := pd_ok ho
  refine ⟨?_, ?_⟩
  · rw [dData, h]
    dsimp only
    rw [datas_pd (pdBs_le (by omega) p), toPDs_map]
    rfl
  · rw [← toPDs_map]
    unfold SeqAt.shaped
    rw [show PyData.canLay0 (.list (toPDs (r.map DV.str))) = PyData.canLayAll0 (toPDs (r.map DV.str)) from rfl, lays_pd p, Bool.true_and]
    exact decide_eq_true (by rw [PyData.depth]; have := depths_pd p; omega)
theorem eqvAll_strs : ∀ {a b : List Str}, PyData.eqvAll (a.map .str) (b.map .str) = decide (a = b)
  | [], [] => by simp [PyData.eqvAll]
  | [], y :: ys => by simp [PyData.eqvAll]
  | x :: xs, [] => by simp [PyData.eqvAll]
  | x :: xs, y :: ys => by
    rw [List.map_cons, List.map_cons, PyData.eqvAll, eqvAll_strs, PyData.eqv]
    simp
    rfl
theorem in_rests {a b c0 c1 c2 : Nat} {r : List Str} (ha : S[a]? = some (.lst (r.map .str))) (ho : ∀ y ∈ r, PyData.strOk y = true) (hb : S[b]? = some (.lst [.ref c0, .ref c1, .ref c2])) (h0 : S[c0]? = some (.lst [.str "0"])) (h1 : S[c1]? = some (.lst [.str "1"])) (h2 : S[c2]? = some (.lst [.str "2"])) :
    oInA false (.ref a) (.ref b) S = .ok (.bl (rowR 1 r)) S := by
  have e0 : oInA false (.ref a) (.ref b) S = oIn false (.ref a) (.ref b) S := by
    unfold oInA
    simp only [hb]
  obtain ⟨d1, s1⟩ := lst_data (f := 10) ha ho
  obtain ⟨d2, s2⟩ := lst_data (f := 10) (r := ["0"]) h0 (by simp; decide +kernel)
  obtain ⟨d3, s3⟩ := lst_data (f := 10) (r := ["1"]) h1 (by simp; decide +kernel)
  obtain ⟨d4, s4⟩ := lst_data (f := 10) (r := ["2"]) h2 (by simp; decide +kernel)
  have e : inS S (.ref a) (.ref b) = some (rowR 1 r) := by
    show (match itemsOf S (.ref b) with | some l => if (flatD (.ref a) && l.all flatD) = true then some (l.any fun z => eqF z (.ref a)) else _ | none => none) = _
    rw [items_r, hb]
    show (if (flatD (.ref a) && _) = true then _ else _) = _
    rw [if_neg (by simp [flatD]), d1, show dData S 13 (.ref b) = some (.list [.list ([("0" : Str)].map .str), .list ([("1" : Str)].map .str), .list ([("2" : Str)].map .str)]) by
      rw [dData, hb]
      simp only [mapO, d2, d3, d4]
      rfl]
    dsimp only
    rw [s1, show SeqAt.shaped (.list [.list ([("0" : Str)].map .str), .list ([("1" : Str)].map .str), .list ([("2" : Str)].map .str)]) = true by decide +kernel, Bool.and_true, if_pos rfl]
    simp only [List.any_cons, List.any_nil, PyData.eqv, eqvAll_strs, rest_mem]
    congr 1
    simp only [List.mem_cons, List.not_mem_nil, or_false, Bool.decide_or, Bool.or_false]
    congr 1
    · exact decide_eq_decide.mpr ⟨Eq.symm, Eq.symm⟩
    · congr 1
      · exact decide_eq_decide.mpr ⟨Eq.symm, Eq.symm⟩
      · exact decide_eq_decide.mpr ⟨Eq.symm, Eq.symm⟩
  rw [e0]
  unfold oIn
  rw [e]
  simp
theorem words_all_l {known ks : List Str} {r kn : Nat} {x0 x1 x2 : Option DV} (hk : S[kn]? = some (.lst (known.map .str))) (hr : S[r]? = some (.lst (ks.map .str))) (hl : ks.length ≤ 10000000) :
    lcL S.length (gSet 5) mYes (mBin (oInA false) (mVar 5) (mVar 3)) (.lst r (ks.map .str)) [x0, x1, x2, some (.ref kn), none, none] (ks.map .str) (S ++ [.lst []]) = .ok () (S ++ [.lst (ks.map fun x => .bl (memB known x))]) := by
  have h3 := lc_pure (S := S) (tg := gSet 5) (t := mYes) (e := mBin (oInA false) (mVar 5) (mVar 3)) (k := .lst r (ks.map .str)) (Γ0 := [x0, x1, x2, some (.ref kn), none, none]) (xs := ks.map .str) (acc := [])
    (f := fun d => some (.bl (strIn known d))) (fun acc => by simp [at_ext hr]) (by simp; exact Nat.le_trans hl (by decide)) (fun x hx acc => by
      obtain ⟨k, _, rfl⟩ := List.mem_map.mp hx
      simp [lcS, in_strs_l (at_ext hk), strIn])
  rw [filterMap_some', List.map_map] at h3
  exact h3
theorem lgood_0 {row w : Str} {r : List Str} (e : Txt.split row " " = w :: r) (hz : row.length + 2 ≤ sizeLine) (hl : r.length ≤ 10000000) (hs : r.all (memB wCares) = true → r.length ≤ 1000) : ∃ J, b__law_good_k12 [.int 0, .str row] S = .ok (.bl (rowP 0 (w :: r))) (S ++ J) := by
  by_cases hw : w = "cares"
  · subst hw
    have wa := words_all_l (S := S ++ [.lst (.str "cares" :: r.map .str), .lst [.str "cares", .str "rest", .str "works"], .lst cares4, .lst (r.map .str)]) (known := wCares) (kn := S.length + 2) (ks := r) (r := S.length + 3) (x0 := some (.int 0)) (x1 := some (.str row)) (x2 := some (.ref S.length)) (by simp [wCares]) (by simp) hl
    simp at wa
    have hb : (r.map (memB wCares)).all id = r.all (memB wCares) := all_id
    by_cases ha : r.all (memB wCares) = true
    · have p1 := pd_words okc ha
      have p2 : pdBs 11 ((sortX r).map DV.str) = true := pd_words okc (List.all_eq_true.mpr fun x hx => List.all_eq_true.mp ha x (mem_sortX hx))
      refine ⟨[.lst (.str "cares" :: r.map .str), .lst [.str "cares", .str "rest", .str "works"], .lst cares4, .lst (r.map .str), .lst (r.map fun x => .bl (memB wCares x)), .lst (r.map .str), .lst (r.map .str), .lst ((sortX r).map .str)], ?_⟩
      simp [b__law_good_k12, e, hz, sp_len, le_sz, wa, bls_dec, hb, ha, rowP, rowR, head_k, sort_ap, strs_map, lt_scan (hs ha), eqF_r, eq_rr, p1, p2, strs_eq, -lcL_cons, -List.all_map, -List.all_eq_true]
    · have ha' := Bool.eq_false_iff.mpr ha
      refine ⟨[.lst (.str "cares" :: r.map .str), .lst [.str "cares", .str "rest", .str "works"], .lst cares4, .lst (r.map .str), .lst (r.map fun x => .bl (memB wCares x))], ?_⟩
      simp [b__law_good_k12, e, hz, sp_len, le_sz, wa, bls_dec, hb, ha', rowP, rowR, head_k, -lcL_cons, -List.all_map, -List.all_eq_true]
  · refine ⟨[.lst ((w :: r).map .str), .lst [.str "cares", .str "rest", .str "works"]], ?_⟩
    simp [b__law_good_k12, e, hz, sp_len, le_sz, rowP, head_k, hw]
theorem lgood_1 {row w : Str} {r : List Str} (e : Txt.split row " " = w :: r) (hz : row.length + 2 ≤ sizeLine) (ho : ∀ y ∈ r, PyData.strOk y = true) : ∃ J, b__law_good_k12 [.int 1, .str row] S = .ok (.bl (rowP 1 (w :: r))) (S ++ J) := by
  by_cases hw : w = "rest"
  · subst hw
    have ir := in_rests (S := S ++ [.lst (.str "rest" :: r.map .str), .lst [.str "cares", .str "rest", .str "works"], .lst (r.map .str), .lst [.str "0"], .lst [.str "1"], .lst [.str "2"], .lst [.ref (S.length + 3), .ref (S.length + 4), .ref (S.length + 5)]]) (a := S.length + 2) (b := S.length + 6) (c0 := S.length + 3) (c1 := S.length + 4) (c2 := S.length + 5) (r := r) (by simp) ho (by simp) (by simp) (by simp) (by simp)
    refine ⟨[.lst (.str "rest" :: r.map .str), .lst [.str "cares", .str "rest", .str "works"], .lst (r.map .str), .lst [.str "0"], .lst [.str "1"], .lst [.str "2"], .lst [.ref (S.length + 3), .ref (S.length + 4), .ref (S.length + 5)]], ?_⟩
    simp [b__law_good_k12, e, hz, sp_len, le_sz, ir, rowP, head_k]
  · refine ⟨[.lst ((w :: r).map .str), .lst [.str "cares", .str "rest", .str "works"]], ?_⟩
    simp [b__law_good_k12, e, hz, sp_len, le_sz, rowP, head_k, hw]
theorem lgood_2 {row w : Str} {r : List Str} (e : Txt.split row " " = w :: r) (hz : row.length + 2 ≤ sizeLine) (hl : r.length ≤ 10000000) : ∃ J, b__law_good_k12 [.int 2, .str row] S = .ok (.bl (rowP 2 (w :: r))) (S ++ J) := by
  by_cases hw : w = "works"
  · subst hw
    have wa := words_all_l (S := S ++ [.lst (.str "works" :: r.map .str), .lst [.str "cares", .str "rest", .str "works"], .lst [.str "free", .str "sweep"], .lst (r.map .str)]) (known := wWorks) (kn := S.length + 2) (ks := r) (r := S.length + 3) (x0 := some (.int 2)) (x1 := some (.str row)) (x2 := some (.ref S.length)) (by simp [wWorks]) (by simp) hl
    simp at wa
    have hb : (r.map (memB wWorks)).all id = r.all (memB wWorks) := all_id
    refine ⟨[.lst (.str "works" :: r.map .str), .lst [.str "cares", .str "rest", .str "works"], .lst [.str "free", .str "sweep"], .lst (r.map .str), .lst (r.map fun x => .bl (memB wWorks x))], ?_⟩
    by_cases ha : r.all (memB wWorks) = true
    · by_cases z1 : 1 ≤ r.length
      · have b1 : (1 : Int) < (r.length : Int) + 1 := by omega
        have b1' : 0 < r.length := z1
        by_cases z2 : r.length ≤ 3
        · have b2 : (r.length : Int) + 1 < 5 := by omega
          simp [b__law_good_k12, e, hz, sp_len, le_sz, wa, bls_dec, hb, ha, b1, b1', b2, z1, z2, rowP, rowR, head_k, -lcL_cons, -List.all_map, -List.all_eq_true]
        · have b2 : ¬ (r.length : Int) + 1 < 5 := by omega
          simp [b__law_good_k12, e, hz, sp_len, le_sz, wa, bls_dec, hb, ha, b1, b1', b2, z1, z2, rowP, rowR, head_k, -lcL_cons, -List.all_map, -List.all_eq_true]
      · have b1 : ¬ (1 : Int) < (r.length : Int) + 1 := by omega
        have b1' : ¬ 0 < r.length := z1
        simp [b__law_good_k12, e, hz, sp_len, le_sz, wa, bls_dec, hb, ha, b1, b1', z1, rowP, rowR, head_k, -lcL_cons, -List.all_map, -List.all_eq_true]
    · have ha' := Bool.eq_false_iff.mpr ha
      simp [b__law_good_k12, e, hz, sp_len, le_sz, wa, bls_dec, hb, ha', rowP, rowR, head_k, -lcL_cons, -List.all_map, -List.all_eq_true]
  · refine ⟨[.lst ((w :: r).map .str), .lst [.str "cares", .str "rest", .str "works"]], ?_⟩
    simp [b__law_good_k12, e, hz, sp_len, le_sz, rowP, head_k, hw]
theorem lgood_3 {row : Str} {k : Nat} (hk : 3 ≤ k) (hz : row.length + 2 ≤ sizeLine) : ∃ J, b__law_good_k12 [.int k, .str row] S = .ok (.bl false) (S ++ J) := by
  have h : (2 : Int) < (k : Int) := by omega
  have h' : 2 < k := by omega
  exact ⟨[.lst ((Txt.split row " ").map .str)], by simp [b__law_good_k12, hz, sp_len, h, h']⟩
/-! ### the program's reader -/
theorem right_k {k n : Nat} {w : Str} {r : List Str} (hk : k ≤ 2) (h : S[n]? = some (.lst ((w :: r).map .str))) (hl : r.length ≤ 1000) : ∃ J, b_is_right_k12 [.str (head_k k), .ref n] S = .ok (.bl (rowP k (w :: r))) (S ++ J) := by
  have : k = 0 ∨ k = 1 ∨ k = 2 := by omega
  rcases this with rfl | rfl | rfl
  · exact right_0 h (by omega) fun _ _ => hl
  · exact right_1 h
  · exact right_2 h (by omega)
theorem heads_k {k : Nat} (hk : k ≤ 2) : atI [DV.str "cares", .str "rest", .str "works"] (k : Int) = some (.str (head_k k)) := by
  have : k = 0 ∨ k = 1 ∨ k = 2 := by omega
  rcases this with rfl | rfl | rfl <;> simp [head_k, atI_n]
def okLine (k : Nat) (row : Str) : Bool := decide (k ≤ 2) && rowP k (Txt.split row " ")
/-- the first line that is none -/
def firstBad : Nat → List Str → Option Nat
  | _, [] => none
  | k, r :: rs => if okLine k r = true then firstBad (k + 1) rs else some k
abbrev bodyR : SM := mSeq (mSet 7 (mCallM noT "split" (mVar 6) (mCons (mCst (.str " ")) mNil))) (mSeq (mIfS (mOrT (mTest (mBin (oCmp fun i j => decide (j ≤ i)) (mVar 5) (mCallB oLen (mCons (mCst (.tup [.str ("cares" : Str), .str ("rest" : Str), .str ("works" : Str)])) mNil)))) (mNotT (mTest (mCallF b_is_right_k12 [] (mCons (mBin oIx (mCst (.tup [.str ("cares" : Str), .str ("rest" : Str), .str ("works" : Str)])) (mVar 5)) (mCons (mVar 7) mNil)))))) (mRaise "InvalidLine" ["line"] (mCons (mBin oAdd (mVar 5) (mCst (.int 1))) mNil)) mNext) (mExp (mCallM noT "append" (mVar 4) (mCons (mSl (mVar 7) (mPart (mCst (.int 1))) mNoP) mNil))))
abbrev tgR : GM := gTupD 2 (gConsD (gSet 5) (gConsD (gSet 6) gNilD))
@[simp] theorem append_ap {n : Nat} {d : DV} {l : List DV} (h : S[n]? = some (.lst l)) (hz : l.length < sizeLine) : oAppend (.ref n) [d] S = .ok .non (S.set n (.lst (l ++ [d]))) := by
  simp only [oAppend, h, if_pos hz]
/-- the rows' ends, laid -/
def Laid (S : DS) (tr : Nat) : List DV → List Str → Prop
  | [], [] => True
  | d :: ds, y :: ys => (∃ m, m ≠ tr ∧ d = .ref m ∧ S[m]? = some (.lst ((Txt.split y " ").tail.map .str))) ∧ Laid S tr ds ys
  | _, _ => False
/-- all stays but tr -/
def KeepX (tr : Nat) (S S' : DS) : Prop := ∀ (m : Nat) o, m ≠ tr → S[m]? = some o → S'[m]? = some o
theorem KeepX.trans {tr : Nat} {S S1 S2 : DS} (a : KeepX tr S S1) (b : KeepX tr S1 S2) : KeepX tr S S2 := fun m o h e => b m o h (a m o h e)
theorem Laid.keep {tr : Nat} {S S' : DS} (f : KeepX tr S S') : ∀ {ds : List DV} {ys : List Str}, Laid S tr ds ys → Laid S' tr ds ys
  | [], [], _ => trivial
  | d :: ds, y :: ys, ⟨⟨m, n, e, h⟩, r⟩ => ⟨⟨m, n, e, f m _ n h⟩, r.keep f⟩
  | [], _ :: _, h => h
  | _ :: _, [], h => h
theorem Laid.snoc {tr : Nat} {S : DS} {m : Nat} {y : Str} (n : m ≠ tr) (h : S[m]? = some (.lst ((Txt.split y " ").tail.map .str))) : ∀ {ds : List DV} {ys : List Str}, Laid S tr ds ys → Laid S tr (ds ++ [.ref m]) (ys ++ [y])
  | [], [], _ => ⟨⟨m, n, rfl, h⟩, trivial⟩
  | d :: ds, z :: ys, ⟨a, r⟩ => ⟨a, r.snoc n h⟩
  | [], _ :: _, h => h.elim
  | _ :: _, [], h => h.elim
theorem nine_hundred : 900 + 2 ≤ sizeLine := by decide
theorem read_loop {tr rr : Nat} {all : List Str} {x0 x1 x2 x3 : Option DV} : ∀ {rows : List Str} {i : Nat} {S : DS} {tl : List DV} {done : List Str} {x5 x6 x7 : Option DV},
    S[tr]? = some (.lst tl) → tl.length = i → S[rr]? = some (.lst (all.map .str)) → rr ≠ tr → Laid S tr tl done → i + rows.length ≤ 10000 → (∀ y ∈ rows, okT 900 y) →
    (∀ j, firstBad i rows = some j → ∃ S', runL tgR bodyR (.lst rr (all.map .str)) (enumD i (rows.map .str)) [x0, x1, x2, x3, some (.ref tr), x5, x6, x7] S = .exc "InvalidLine" [("line", .int (j + 1))] S') ∧
    (firstBad i rows = none → ∃ S' tl' y5 y6 y7, runL tgR bodyR (.lst rr (all.map .str)) (enumD i (rows.map .str)) [x0, x1, x2, x3, some (.ref tr), x5, x6, x7] S = .ok (.nx, [x0, x1, x2, x3, some (.ref tr), y5, y6, y7]) S' ∧ S'[tr]? = some (.lst tl') ∧ Laid S' tr tl' (done ++ rows) ∧ KeepX tr S S')
  | [], i, S, tl, done, x5, x6, x7, h1, h2, h3, h4, h5, h6, h7 => by
    refine ⟨fun j hj => by simp [firstBad] at hj, fun _ => ⟨S, tl, x5, x6, x7, by simp [h3], h1, by rw [List.append_nil]; exact h5, fun _ _ _ e => e⟩⟩
  | y :: ys, i, S, tl, done, x5, x6, x7, h1, h2, h3, h4, h5, h6, h7 => by
    obtain ⟨k1, k2, k3⟩ := split_ok (.inl rfl) (h7 y (by simp))
    have hy := (h7 y (by simp)).1
    obtain ⟨w, r, e⟩ : ∃ w r, Txt.split y " " = w :: r := by
      cases hs : Txt.split y " " with
      | nil => exact absurd hs k1
      | cons w r => exact ⟨w, r, rfl⟩
    have hl : r.length ≤ 1000 := by rw [e] at k2; simp at k2; omega
    have hz : y.length + 2 ≤ sizeLine := Nat.le_trans (by omega) nine_hundred
    rw [List.length_cons] at h6
    by_cases hi : i ≤ 2
    · have c1 : ¬ (3 : Int) ≤ (i : Int) := by omega
      obtain ⟨J, er⟩ := right_k (S := S ++ [.lst (.str w :: r.map .str)]) (k := i) (n := S.length) (w := w) (r := r) hi (by simp) hl
      simp at er
      have hk := heads_k hi
      by_cases hr : rowP i (w :: r) = true
      · have ok : okLine i y = true := by rw [okLine, e, hr]; simp [hi]
        have ltr := lt_some h1
        have n1 : S.length + (J.length + 1) ≠ tr := by omega
        have st : ∀ (m : Nat) o, m ≠ tr → S[m]? = some o → (S.set tr (.lst (tl ++ [.ref (S.length + (J.length + 1))])) ++ .lst (.str w :: r.map .str) :: (J ++ [.lst (r.map .str)]))[m]? = some o := fun m o hm ho => at_keep hm ho
        have ih := read_loop (rows := ys) (i := i + 1) (S := S.set tr (.lst (tl ++ [.ref (S.length + (J.length + 1))])) ++ .lst (.str w :: r.map .str) :: (J ++ [.lst (r.map .str)])) (tl := tl ++ [.ref (S.length + (J.length + 1))]) (done := done ++ [y]) (x5 := some (.int i)) (x6 := some (.str y)) (x7 := some (.ref S.length)) (tr := tr) (rr := rr) (all := all) (x0 := x0) (x1 := x1) (x2 := x2) (x3 := x3)
          (at_new h1) (by simp [h2]) (st _ _ h4 h3) h4 ((h5.keep st).snoc n1 (by rw [at_set ltr, e]; simp)) (by omega) (fun z hz => h7 z (by simp [hz]))
        have go : runL tgR bodyR (.lst rr (all.map .str)) (enumD i ((y :: ys).map .str)) [x0, x1, x2, x3, some (.ref tr), x5, x6, x7] S = runL tgR bodyR (.lst rr (all.map .str)) (enumD (i + 1) (ys.map .str)) [x0, x1, x2, x3, some (.ref tr), some (.int i), some (.str y), some (.ref S.length)] (S.set tr (.lst (tl ++ [.ref (S.length + (J.length + 1))])) ++ .lst (.str w :: r.map .str) :: (J ++ [.lst (r.map .str)])) := by
          have a1 := fun (J : DS) => at_ext (J := J) h1
          have az := fun (J : DS) (d : DV) => append_ap (S := S ++ J) (n := tr) (l := tl) (d := d) (a1 J) (show tl.length < sizeLine from Nat.lt_of_le_of_lt (by omega) (show 10000 < sizeLine by decide))
          simp only [List.map_cons, enumD_c]
          simp [h3, hz, sp_len, e, c1, hk, er, hr, a1, az, set_in ltr]
        rw [go]
        rw [firstBad, if_pos ok]
        obtain ⟨ia, ib⟩ := ih
        refine ⟨ia, fun hn => ?_⟩
        obtain ⟨S', tl', y5, y6, y7, q1, q2, q3, q4⟩ := ib hn
        exact ⟨S', tl', y5, y6, y7, q1, q2, by simpa using q3, KeepX.trans st q4⟩
      · have ok : okLine i y = false := by rw [okLine, e, Bool.eq_false_iff.mpr hr]; simp
        refine ⟨fun j hj => ?_, fun hn => by rw [firstBad, ok] at hn; simp at hn⟩
        rw [firstBad, ok] at hj
        simp at hj
        subst hj
        rw [Bool.eq_false_iff.mpr hr] at er
        exact ⟨_, by simp only [List.map_cons, enumD_c]; simp [h3, hz, sp_len, e, c1, hk, er]; rfl⟩
    · have c1 : (3 : Int) ≤ (i : Int) := by omega
      have ok : okLine i y = false := by rw [okLine]; simp [hi]
      refine ⟨fun j hj => ?_, fun hn => by rw [firstBad, ok] at hn; simp at hn⟩
      rw [firstBad, ok] at hj
      simp at hj
      subst hj
      exact ⟨_, by simp only [List.map_cons, enumD_c]; simp [h3, hz, sp_len, e, c1]; rfl⟩
/-! ### the whole reader -/
def dueD (rows : List Str) (left : Str) : DV := match firstBad 0 rows with
  | some j => .int (j + 1)
  | none => if left ≠ "" ∨ rows.length < 3 then .int (rows.length + 1) else .non
theorem firstBad_len : ∀ {rows : List Str} {i : Nat}, firstBad i rows = none → rows = [] ∨ i + rows.length ≤ 3
  | [], _, _ => .inl rfl
  | y :: ys, i, h => by
    rw [firstBad] at h
    split at h
    · rename_i ok
      have hi : i ≤ 2 := by
        unfold okLine at ok
        simp at ok
        exact ok.1
      rcases firstBad_len h with rfl | k
      · exact .inr (by simp; omega)
      · exact .inr (by simp; omega)
    · cases h
theorem firstBad_all : ∀ {rows : List Str} {i : Nat}, firstBad i rows = none → ∀ (k : Nat) y, rows[k]? = some y → okLine (i + k) y = true
  | [], _, _, k, y, h => by simp at h
  | z :: zs, i, h, k, y, hk => by
    rw [firstBad] at h
    split at h
    · rename_i ok
      cases k with
      | zero => simp at hk; subst hk; exact ok
      | succ k =>
        have := firstBad_all h k y (by simpa using hk)
        rw [show i + (k + 1) = i + 1 + k by omega]
        exact this
    · cases h
@[simp] theorem atI_m1 {γ : Type} {l : List γ} {a : γ} : atI (l ++ [a]) (-1) = some a := atI_last l a
theorem int_digit : ∀ x ∈ restW, ∃ k : Int, 0 ≤ k ∧ k ≤ 2 ∧ PySem.intText? x = some k ∧ x.length ≤ 640 := by
  intro x hx
  simp [restW] at hx
  rcases hx with rfl | rfl | rfl
  · exact ⟨0, by decide, by decide, by decide +kernel, by decide +kernel⟩
  · exact ⟨1, by decide, by decide, by decide +kernel, by decide +kernel⟩
  · exact ⟨2, by decide, by decide, by decide +kernel, by decide +kernel⟩
def intK (o : Option Int) (z : Str) (S : DS) : DR DV := match o with
  | some n => if z.length ≤ 640 then .ok (.int n) S else .bad
  | none => .bad
@[simp] theorem intK_s {n : Int} {z : Str} : intK (some n) z S = if z.length ≤ 640 then .ok (.int n) S else .bad := Eq.trans rfl rfl
@[simp] theorem int_s {z : Str} : oInt [.str z] S = intK (PySem.intText? z) z S := Eq.trans rfl rfl
theorem areW_mem {known x : List Str} : areW known (.tup (x.map .str)) = x.all (memB known) := by
  unfold areW
  dsimp only
  rw [List.all_map]
  rfl
theorem gCares_row {x : List Str} (h : rowR 0 x = true) : gCares (.tup (x.map .str)) = true := by
  unfold rowR at h
  rw [if_pos rfl, Bool.and_eq_true] at h
  unfold gCares strsOf
  rw [areW_mem, h.1]
  simp only [strs_map, Option.getD_some, Bool.true_and]
  exact h.2
theorem gWorks_row {x : List Str} (h : rowR 2 x = true) : gWorks (.tup (x.map .str)) = true := by
  unfold rowR at h
  rw [if_neg (by decide), if_neg (by decide)] at h
  simp only [Bool.and_eq_true] at h
  unfold gWorks lenD
  rw [areW_mem, h.2.2]
  simp only [List.length_map, Bool.true_and, Bool.and_eq_true]
  exact ⟨h.1, h.2.1⟩
theorem rest_row {x : List Str} (h : rowR 1 x = true) : ∃ z, x = [z] ∧ z ∈ restW := by
  unfold rowR at h
  rw [if_neg (by decide), if_pos rfl, Bool.and_eq_true] at h
  have hl : x.length = 1 := of_decide_eq_true h.1
  match x, hl with
  | [z], _ => exact ⟨z, rfl, of_decide_eq_true (show memB restW z = true by simpa using h.2)⟩
theorem row_split {k : Nat} {y : Str} (h : okLine k y = true) : rowR k (Txt.split y " ").tail = true := by
  unfold okLine at h
  rw [Bool.and_eq_true] at h
  cases e : Txt.split y " " with
  | nil => rw [e] at h; simp [rowP] at h
  | cons w r =>
    rw [e] at h
    unfold rowP at h
    rw [Bool.and_eq_true] at h
    exact h.2.2
/-- how the reading ends -/
theorem read_ok {T : Str} {rows : List Str} {left : Str} (hT : okT 900 T) (e : Txt.split T "\n" = rows ++ [left]) :
    (∀ k : Int, dueD rows left = .int k → ∃ S', b_read [.str T] S = .exc "InvalidLine" [("line", .int k)] S') ∧
    (dueD rows left = .non → ∃ S' ν y0 y1 y2 x0 n x2, b_read [.str T] S = .ok (.ref ν) S' ∧ (∀ (m : Nat) o, S[m]? = some o → S'[m]? = some o) ∧ rows = [y0, y1, y2] ∧ (Txt.split y0 " ").tail = x0 ∧ (∃ z, (Txt.split y1 " ").tail = [z] ∧ PySem.intText? z = some n) ∧ (Txt.split y2 " ").tail = x2 ∧
      S'[ν]? = some (ruleO (.tup (x0.map .str)) (.int n) (.tup (x2.map .str))) ∧ goodP (.tup (x0.map .str)) (.int n) (.tup (x2.map .str))) := by
  obtain ⟨k1, k2, k3⟩ := split_ok (.inr rfl) hT
  have hz : T.length + 2 ≤ sizeLine := Nat.le_trans (by have := hT.1; omega) nine_hundred
  rw [e] at k2 k3
  have hrows : ∀ y ∈ rows, okT 900 y := fun y hy => k3 y (by simp [hy])
  have hlen : rows.length ≤ 1000 := by simp at k2; omega
  obtain ⟨ra, rb⟩ := read_loop (S := S ++ [.lst (rows.map .str ++ [.str left]), .lst (rows.map .str), .lst []]) (tr := S.length + 2) (rr := S.length + 1) (all := rows) (x0 := some (.str T)) (x1 := some (.ref S.length)) (x2 := some (.ref (S.length + 1))) (x3 := some (.str left)) (rows := rows) (i := 0) (tl := []) (done := []) (x5 := none) (x6 := none) (x7 := none)
    (by simp) rfl (by simp) (by omega) trivial (by omega) hrows
  have cl : cutD (rows.map DV.str ++ [.str left]) none (some (-1)) = rows.map .str := cut_last
  have hle : (rows.map DV.str ++ [DV.str left]).length ≤ 100000 := by simp; omega
  refine ⟨fun k hk => ?_, fun hk => ?_⟩
  · unfold dueD at hk
    cases hf : firstBad 0 rows with
    | some j =>
      rw [hf] at hk
      cases hk
      obtain ⟨S', r⟩ := ra j hf
      exact ⟨S', by simp [b_read, hz, nl_len, e, cl, le_sz, r, -runL_cons]⟩
    | none =>
      rw [hf] at hk
      obtain ⟨S', tl', y5, y6, y7, q1, q2, q3, q4⟩ := rb hf
      dsimp only at hk
      split at hk
      · rename_i hc
        cases hk
        have q5 := q4 (S.length + 1) _ (by omega) (show _ = some (.lst (rows.map DV.str)) by simp)
        by_cases hl : left = ""
        · subst hl
          have hr : rows.length < 3 := by simpa using hc
          have hr' : (rows.length : Int) < 3 := by omega
          exact ⟨S', by simp [b_read, hz, nl_len, e, cl, le_sz, q1, q5, hr', -runL_cons]⟩
        · exact ⟨S', by simp [b_read, hz, nl_len, e, cl, le_sz, q1, q5, hl, -runL_cons]⟩
      · cases hk
  · unfold dueD at hk
    cases hf : firstBad 0 rows with
    | some j => rw [hf] at hk; cases hk
    | none =>
      rw [hf] at hk
      obtain ⟨S', tl', y5, y6, y7, q1, q2, q3, q4⟩ := rb hf
      dsimp only at hk
      split at hk
      · cases hk
      · rename_i hc
        simp only [ne_eq, not_or, Decidable.not_not] at hc
        obtain ⟨rfl, hr⟩ := hc
        have h3 : rows.length = 3 := by
          rcases firstBad_len hf with rfl | z
          · simp at hr
          · omega
        obtain ⟨y0, y1, y2, rfl⟩ : ∃ y0 y1 y2, rows = [y0, y1, y2] := by
          match rows, h3 with
          | [a, b, c], _ => exact ⟨a, b, c, rfl⟩
        have o0 := row_split (firstBad_all hf 0 y0 rfl)
        have o1 := row_split (firstBad_all hf 1 y1 rfl)
        have o2 := row_split (firstBad_all hf 2 y2 rfl)
        have s0 := (split_ok (sep := " ") (.inl rfl) (hrows y0 (by simp))).2.1
        have s2 := (split_ok (sep := " ") (.inl rfl) (hrows y2 (by simp))).2.1
        obtain ⟨z, ez, hz1⟩ := rest_row o1
        obtain ⟨n, n0, n2, n3, n4⟩ := int_digit z hz1
        generalize e0 : (Txt.split y0 " ").tail = x0 at o0
        generalize e2 : (Txt.split y2 " ").tail = x2 at o2
        have l0 : x0.length ≤ 1000 := by rw [← e0]; simp; omega
        have l2 : x2.length ≤ 1000 := by rw [← e2]; simp; omega
        have g1 := gCares_row o0
        have g3 := gWorks_row o2
        have g2 : gRest (.int n) = true := by simp [gRest, n0, n2]
        have gp := good_of g1 g2 g3
        match tl', q3 with
        | [d0, d1, d2], ⟨⟨m0, _, ed0, f0⟩, ⟨m1, _, ed1, f1⟩, ⟨m2, _, ed2, f2⟩, _⟩ =>
          subst ed0 ed1 ed2
          rw [e0] at f0
          rw [ez] at f1
          rw [e2] at f2
          obtain ⟨J, er⟩ := rule_good (S := S') (n := S'.length) rfl (fun J => (gp.ok _).1) (fun J => (gp.ok _).2.1) (fun J => (gp.ok _).2.2) (fun l hl => by cases hl; simpa using l0) (fun l hl => by cases hl; simpa using l2) g1 g2 g3
          have q5 := q4 (S.length + 1) _ (by omega) (show _ = some (.lst ([y0, y1, y2].map DV.str)) by simp)
          refine ⟨S' ++ ruleO (.tup (x0.map .str)) (.int n) (.tup (x2.map .str)) :: J, S'.length, y0, y1, y2, x0, n, x2, ?_, fun m o hm => at_ext (q4 m o (by have := lt_some hm; omega) (at_ext hm)), rfl, e0, ⟨z, ez, n3⟩, e2, by simp, gp⟩
          have cl' : cutD [DV.str y0, .str y1, .str y2, .str ""] none (some (-1)) = [.str y0, .str y1, .str y2] := cl
          simp only [List.map_cons, List.map_nil, List.cons_append, List.nil_append] at q1 cl' hle q5 e
          have am : atI [DV.str y0, .str y1, .str y2, .str ""] (-1) = some (.str "") := atI_last [DV.str y0, .str y1, .str y2] (.str "")
          simp [b_read, hz, nl_len, e, cl', am, le_sz, q1, q5, q2, f0, f1, f2, n3, n4, er, -runL_cons, -enumD_c]
end
end KN
set_option maxHeartbeats 200000
namespace KN
open PySem PySem.Spec PyProof.Rows L2
section
variable {S : DS}
theorem dueD_or (rows : List Str) (left : Str) : (∃ k : Int, dueD rows left = .int k) ∨ dueD rows left = .non := by
  unfold dueD
  split
  · exact .inl ⟨_, rfl⟩
  · split
    · exact .inl ⟨_, rfl⟩
    · exact .inr rfl
theorem told_12 {T : Str} {rows : List Str} {left : Str} (hT : okT 900 T) (e : Txt.split T "\n" = rows ++ [left]) : ∃ S', b__law_told_k12 [.str T] S = .ok (dueD rows left) S' := by
  obtain ⟨ra, rb⟩ := read_ok (S := S) hT e
  rcases dueD_or rows left with ⟨k, hk⟩ | hk
  · obtain ⟨S', r⟩ := ra k hk
    exact ⟨S', by simp [b__law_told_k12, r, hk, excL, sevs_c]⟩
  · obtain ⟨S', ν, y0, y1, y2, x0, n, x2, r, _⟩ := rb hk
    exact ⟨S', by simp [b__law_told_k12, r, hk]⟩
/-! ### the line that is due -/
theorem lgood_k {k : Nat} {row : Str} (ho : okT 900 row) : ∃ J, b__law_good_k12 [.int k, .str row] S = .ok (.bl (okLine k row)) (S ++ J) := by
  obtain ⟨k1, k2, k3⟩ := split_ok (sep := " ") (.inl rfl) ho
  have hz : row.length + 2 ≤ sizeLine := Nat.le_trans (by have := ho.1; omega) nine_hundred
  obtain ⟨w, r, e⟩ : ∃ w r, Txt.split row " " = w :: r := by
    cases hs : Txt.split row " " with
    | nil => exact absurd hs k1
    | cons w r => exact ⟨w, r, rfl⟩
  rw [e] at k2 k3
  have hl : r.length ≤ 1000 := by simp at k2; omega
  unfold okLine
  rw [e]
  match k with
  | 0 => exact lgood_0 e hz (by omega) fun _ => hl
  | 1 => exact lgood_1 e hz fun y hy => (k3 y (by simp [hy])).2
  | 2 => exact lgood_2 e hz (by omega)
  | k + 3 =>
    rw [show (decide (k + 3 ≤ 2) && rowP (k + 3) (w :: r)) = false by simp]
    exact lgood_3 (by omega) hz
abbrev bodyD : SM := mIfS (mNotT (mTest (mCallF b__law_good_k12 [] (mCons (mVar 2) (mCons (mBin oIx (mVar 1) (mVar 2)) mNil))))) (mRet (mBin oAdd (mVar 2) (mCst (.int 1)))) mNext
theorem due_loop {lr : Nat} {all : List Str} {left : Str} {x0 : Option DV} : ∀ {rows : List Str} {i : Nat} {S : DS} {done : List Str} {x2 : Option DV},
    S[lr]? = some (.lst (all.map .str)) → all = done ++ (rows ++ [left]) → done.length = i → (∀ y ∈ rows, okT 900 y) →
    (∀ j, firstBad i rows = some j → ∃ S' Γ', runL (gSet 2) bodyD .fix (rngD (i : Int) rows.length) [x0, some (.ref lr), x2] S = .ok (.rt (.int (j + 1)), Γ') S') ∧
    (firstBad i rows = none → ∃ J y2, runL (gSet 2) bodyD .fix (rngD (i : Int) rows.length) [x0, some (.ref lr), x2] S = .ok (.nx, [x0, some (.ref lr), y2]) (S ++ J))
  | [], i, S, done, x2, h1, h2, h3, h4 => by
    refine ⟨fun j hj => by simp [firstBad] at hj, fun _ => ⟨[], x2, by simp⟩⟩
  | y :: ys, i, S, done, x2, h1, h2, h3, h4 => by
    have hat : atI (all.map DV.str) (i : Int) = some (.str y) := by
      rw [atI_n, h2, List.getElem?_map, List.getElem?_append_right (by omega), h3]
      simp
    obtain ⟨J, er⟩ := lgood_k (S := S) (k := i) (h4 y (by simp))
    have ei : ((i : Int) + 1) = ((i + 1 : Nat) : Int) := by omega
    obtain ⟨ia, ib⟩ := due_loop (lr := lr) (all := all) (left := left) (x0 := x0) (rows := ys) (i := i + 1) (S := S ++ J) (done := done ++ [y]) (x2 := some (.int i)) (at_ext h1) (by rw [h2]; simp) (by simp [h3]) (fun z hz => h4 z (by simp [hz]))
    rw [firstBad, List.length_cons, rng_s, ei]
    cases ok : okLine i y with
    | true =>
      rw [ok] at er
      have go : runL (gSet 2) bodyD .fix (.int i :: rngD ((i + 1 : Nat) : Int) ys.length) [x0, some (.ref lr), x2] S = runL (gSet 2) bodyD .fix (rngD ((i + 1 : Nat) : Int) ys.length) [x0, some (.ref lr), some (.int i)] (S ++ J) := by
        simp only [runL_cons]
        simp [h1, hat, er]
      rw [go, if_pos rfl]
      refine ⟨ia, fun hn => ?_⟩
      obtain ⟨J', y2, q⟩ := ib hn
      exact ⟨J ++ J', y2, by rw [q, List.append_assoc]⟩
    | false =>
      rw [ok] at er
      rw [if_neg (by simp)]
      refine ⟨fun j hj => ?_, fun hn => by cases hn⟩
      cases hj
      exact ⟨S ++ J, [x0, some (.ref lr), some (.int i)], by simp only [runL_cons]; simp [h1, hat, er]⟩
theorem due_12 {T : Str} {rows : List Str} {left : Str} (hT : okT 900 T) (e : Txt.split T "\n" = rows ++ [left]) : ∃ S', b__law_due_line [.str T] S = .ok (dueD rows left) S' := by
  obtain ⟨k1, k2, k3⟩ := split_ok (.inr rfl) hT
  have hz : T.length + 2 ≤ sizeLine := Nat.le_trans (by have := hT.1; omega) nine_hundred
  rw [e] at k2 k3
  have hlen : rows.length ≤ 1000 := by simp at k2; omega
  obtain ⟨ra, rb⟩ := due_loop (S := S ++ [.lst ((rows ++ [left]).map .str)]) (lr := S.length) (all := rows ++ [left]) (left := left) (x0 := some (.str T)) (rows := rows) (i := 0) (done := []) (x2 := none) (by simp) rfl rfl (fun y hy => k3 y (by simp [hy]))
  have hn : (rows.length : Int) < 4611686018427387904 := by omega
  have z0 : ((0 : Nat) : Int) = 0 := rfl
  rw [z0] at ra rb
  have am : atI (rows.map DV.str ++ [.str left]) (-1) = some (.str left) := atI_last _ _
  unfold dueD
  cases hf : firstBad 0 rows with
  | some j =>
    obtain ⟨S', Γ', r⟩ := ra j hf
    simp only [List.map_append, List.map_cons, List.map_nil] at r
    exact ⟨S', by simp [b__law_due_line, hz, nl_len, e, hn, r, -runL_cons]⟩
  | none =>
    obtain ⟨J, y2, r⟩ := rb hf
    simp only [List.map_append, List.map_cons, List.map_nil] at r
    refine ⟨S ++ ([.lst (rows.map .str ++ [.str left])] ++ J), ?_⟩
    by_cases hl : left = ""
    · subst hl
      by_cases hr : rows.length < 3
      · have hr' : (rows.length : Int) + 1 < 4 := by omega
        simp [b__law_due_line, hz, nl_len, e, hn, r, am, hr, hr', -runL_cons]
      · have hr' : ¬ (rows.length : Int) + 1 < 4 := by omega
        simp [b__law_due_line, hz, nl_len, e, hn, r, am, hr, hr', -runL_cons]
    · simp [b__law_due_line, hz, nl_len, e, hn, r, am, hl, -runL_cons]
end
end KN
set_option maxHeartbeats 200000
namespace KN
open PySem PySem.Spec PyProof.Rows L2
section
variable {S : DS} {Γ : DG}
/-! ### a body whose end is told with its store -/
def RetP (b : SM) (Γ : DG) (S : DS) (P : DV → DS → Prop) : Prop := ∃ d Γ' S', b Γ S = .ok (.rt d, Γ') S' ∧ P d S'
def RetPB (r : DR (DF × DG)) (b : SM) (P : DV → DS → Prop) : Prop := ∃ d Γ' S', r.bnd (seqK b) = .ok (.rt d, Γ') S' ∧ P d S'
theorem RetP_step {a b : SM} {P : DV → DS → Prop} (h : ∀ rest : SM, rest = b → RetPB (a Γ S) rest P) : RetP (mSeq a b) Γ S P := by
  obtain ⟨d, Γ', S', e, p⟩ := h b rfl
  exact ⟨d, Γ', S', by rw [mSeq_ap]; exact e, p⟩
@[simp] theorem RetPB_nx {b : SM} {P : DV → DS → Prop} : RetPB (.ok (.nx, Γ) S) b P = RetP b Γ S P := by
  unfold RetPB
  rw [bok, seqK_nx]
  rfl
@[simp] theorem RetPB_rt {b : SM} {d : DV} {P : DV → DS → Prop} : RetPB (.ok (.rt d, Γ) S) b P = P d S := by
  unfold RetPB
  rw [bok, seqK_rt]
  refine propext ⟨fun ⟨_, _, _, h, p⟩ => by cases h; exact p, fun h => ⟨d, Γ, S, rfl, h⟩⟩
theorem RetP_ret {m : EM} {d : DV} {S' : DS} {P : DV → DS → Prop} (h : m Γ S = .ok d S') (p : P d S') : RetP (mRet m) Γ S P := ⟨d, Γ, S', by rw [mRet_ap, h, bok], p⟩
def RetPE (r : DR DV) (P : DV → DS → Prop) : Prop := ∃ d S', r = .ok d S' ∧ P d S'
theorem RetP_retE {m : EM} {P : DV → DS → Prop} (h : RetPE (m Γ S) P) : RetP (mRet m) Γ S P := by
  obtain ⟨d, S', e, p⟩ := h
  exact RetP_ret e p
@[simp] theorem RetPE_ok {d : DV} {P : DV → DS → Prop} : RetPE (.ok d S) P = P d S := by
  unfold RetPE
  refine propext ⟨fun ⟨_, _, h, p⟩ => by cases h; exact p, fun h => ⟨d, S, rfl, h⟩⟩
theorem RetP.fn2 {s : Nat} {b : SM} {x y : DV} {P : DV → DS → Prop} (h : RetP b (some x :: some y :: List.replicate (s - 2) none) S P) : ∃ d S', fnD 2 s b [x, y] S = .ok d S' ∧ P d S' := by
  obtain ⟨d, Γ', S', e, p⟩ := h
  exact ⟨d, S', by rw [fnD_2, e, bok, retK_rt], p⟩
/-! ### words, rows, texts -/
def clean (k : Str) : Prop := okT 8 k ∧ 32 ∉ k.cps.toList ∧ 10 ∉ k.cps.toList
instance : DecidablePred clean := fun k => by unfold clean okT; exact inferInstance
def Row (m : Nat) (y : Str) : Prop := ∃ ks : List Str, y = Txt.join " " ks ∧ ks ≠ [] ∧ ks.length ≤ m ∧ ∀ k ∈ ks, clean k
theorem sp_one {c : Nat} (h : (" " : Str) = SX.S [c]) : c = 32 := by
  have : ([32] : List Nat) = [c] := congrArg (fun s : Str => s.cps.toList) h
  exact (List.cons.inj this).1.symm
theorem nl_one {c : Nat} (h : ("\n" : Str) = SX.S [c]) : c = 10 := by
  have : ([10] : List Nat) = [c] := congrArg (fun s : Str => s.cps.toList) h
  exact (List.cons.inj this).1.symm
theorem cut_row {ks : List Str} (h0 : ks ≠ []) (h : ∀ k ∈ ks, clean k) : Txt.split (Txt.join " " ks) " " = ks := cut_join (.inl rfl) h0 fun c e y hy => by rw [sp_one e]; exact (h y hy).2.1
theorem row_okT {m : Nat} {y : Str} (h : Row m y) : okT (m * 9) y := by
  obtain ⟨ks, rfl, _, h2, h3⟩ := h
  exact join_ok (n := 8) (m := 1) (by unfold okT; decide +kernel) (fun k hk => (h3 k hk).1) h2
theorem S_cps (l : List Nat) : (SX.S l).cps.toList = l := rfl
theorem row_nl {m : Nat} {y : Str} (h : Row m y) : 10 ∉ y.cps.toList := by
  obtain ⟨ks, rfl, _, h2, h3⟩ := h
  rw [join_codes, S_cps]
  intro hd
  rcases joinL_mem hd with h | ⟨p, hp, h⟩
  · have : (10 : Nat) ∈ ([32] : List Nat) := h
    simp at this
  · obtain ⟨k, hk, rfl⟩ := List.mem_map.mp hp
    exact (h3 k hk).2.2 h
theorem joinL_nl : ∀ xs : List (List Nat), TL.joinL [] (xs.map (· ++ [10])) = TL.joinL [10] (xs ++ [[]])
  | [] => rfl
  | [p] => by
    show p ++ [10] = p ++ ([10] ++ [])
    rfl
  | p :: q :: r => by
    have ih := joinL_nl (q :: r)
    show (p ++ [10]) ++ ([] ++ TL.joinL [] ((q :: r).map (· ++ [10]))) = p ++ ([10] ++ TL.joinL [10] ((q :: r) ++ [[]]))
    rw [ih]
    simp
def textT (rows : List Str) : Str := Txt.join "" (rows.map fun y => y ++ ("\n" : Str))
theorem text_join (rows : List Str) : textT rows = Txt.join "\n" (rows ++ [("" : Str)]) := by
  unfold textT
  rw [join_codes, join_codes]
  have h := joinL_nl (rows.map fun y => y.cps.toList)
  have e1 : (rows.map fun y => y ++ ("\n" : Str)).map (fun y => y.cps.toList) = (rows.map fun y => y.cps.toList).map (· ++ [10]) := by
    rw [List.map_map, List.map_map]
    exact List.map_congr_left fun y _ => TL.tl_append y "\n"
  rw [e1, List.map_append]
  exact congrArg SX.S h
theorem text_cut {rows : List Str} (h : ∀ y ∈ rows, 10 ∉ y.cps.toList) : Txt.split (textT rows) "\n" = rows ++ [("" : Str)] := by
  rw [text_join]
  refine cut_join (.inr rfl) (by simp) fun c e y hy => ?_
  rw [nl_one e]
  rcases List.mem_append.mp hy with hy | hy
  · exact h y hy
  · rw [List.mem_singleton] at hy
    subst hy
    decide +kernel
def RowsI (N m : Nat) (rows : List Str) : Prop := rows ≠ [] ∧ rows.length ≤ N ∧ ∀ y ∈ rows, Row m y
theorem text_ok {N m : Nat} {rows : List Str} (h : RowsI N m rows) : okT (N * (m * 9 + 1)) (textT rows) := by
  unfold textT
  have := join_ok (sep := "") (ys := rows.map fun y => y ++ ("\n" : Str)) (n := m * 9 + 1) (m := 0) (k := N) (by unfold okT; decide +kernel) (fun y hy => by
    obtain ⟨z, hz, rfl⟩ := List.mem_map.mp hy
    exact cat_ok (row_okT (h.2.2 z hz)) (by unfold okT; decide +kernel)) (by rw [List.length_map]; exact h.2.1)
  exact this
theorem Row.le {m m' : Nat} {y : Str} (h : m ≤ m') (r : Row m y) : Row m' y := by
  obtain ⟨ks, a, b, c, d⟩ := r
  exact ⟨ks, a, b, by omega, d⟩
theorem okT.le {m m' : Nat} {y : Str} (h : m ≤ m') (r : okT m y) : okT m' y := ⟨by have := r.1; omega, r.2⟩
/-! ### the text of rows -/
theorem sum_le {n : Nat} : ∀ {ys : List Str}, (∀ y ∈ ys, y.length ≤ n) → (ys.map (·.length)).sum ≤ ys.length * n
  | [], _ => by simp
  | y :: ys, h => by
    have a := h y (by simp)
    have b := sum_le (ys := ys) fun z hz => h z (by simp [hz])
    rw [List.map_cons, List.sum_cons, List.length_cons, Nat.succ_mul]
    omega
theorem join_one {a : Str} {d : DV} {l : List DV} {ys : List Str} (h1 : itemsOf S d = some l) (h2 : strsD l = some ys) (h3 : (ys.map (·.length)).sum + ys.length * a.length ≤ 16777216) : oJoin (.str a) [d] S = .ok (.str (Txt.join a ys)) S := by
  show (match itemsOf S d with | some l => _ | none => _) = _
  rw [h1]
  dsimp only
  rw [h2]
  dsimp only
  rw [if_pos h3]
theorem join_l {p : Nat} {sep : Str} {ys : List Str} {n k m : Nat} (h : S[p]? = some (.lst (ys.map .str))) (hl : ∀ y ∈ ys, y.length ≤ n) (hk : ys.length ≤ k) (hm : sep.length ≤ m) (hz : k * n + k * m ≤ 16777216) : oJoin (.str sep) [.ref p] S = .ok (.str (Txt.join sep ys)) S := by
  refine join_one (l := ys.map .str) (by rw [items_r, h, itK_l]) (strs_map ys) ?_
  have a := sum_le hl
  have b := Nat.mul_le_mul_right n hk
  have c := Nat.mul_le_mul hk hm
  omega
theorem join_t {sep : Str} {ys : List Str} {n k m : Nat} (hl : ∀ y ∈ ys, y.length ≤ n) (hk : ys.length ≤ k) (hm : sep.length ≤ m) (hz : k * n + k * m ≤ 16777216) : oJoin (.str sep) [.tup (ys.map .str)] S = .ok (.str (Txt.join sep ys)) S := by
  refine join_one (l := ys.map .str) items_tup (strs_map ys) ?_
  have a := sum_le hl
  have b := Nat.mul_le_mul_right n hk
  have c := Nat.mul_le_mul hk hm
  omega
theorem text_comp {rn : Nat} {rows : List Str} {x0 x1 x2 x3 x4 x5 x6 : Option DV} (h : S[rn]? = some (.lst (rows.map .str))) (hl : rows.length ≤ 1000) (hy : ∀ y ∈ rows, y.length ≤ 1000) :
    lcL S.length (gSet 8) mYes (mBin oAdd (mVar 8) (mCst (.str "\n"))) (.lst rn (rows.map .str)) [x0, x1, x2, x3, x4, x5, x6, none, none] (rows.map .str) (S ++ [.lst []]) = .ok () (S ++ [.lst ((rows.map fun y => y ++ ("\n" : Str)).map .str)]) := by
  have h3 := lc_pure (S := S) (tg := gSet 8) (t := mYes) (e := mBin oAdd (mVar 8) (mCst (.str "\n"))) (k := .lst rn (rows.map .str)) (Γ0 := [x0, x1, x2, x3, x4, x5, x6, none, none]) (xs := rows.map .str) (acc := [])
    (f := fun d => match d with | .str y => some (.str (y ++ ("\n" : Str))) | _ => none) (fun acc => by simp [at_ext h]) (by simp; exact Nat.le_trans hl (by decide)) (fun x hx acc => by
      obtain ⟨k, hk, rfl⟩ := List.mem_map.mp hx
      have := hy k hk
      have hn : ("\n" : Str).length = 1 := by decide +kernel
      have hs : k.length + 1 ≤ sizeLine := Nat.le_trans (show _ ≤ 1001 by omega) (by decide)
      simp [lcS, hn, hs])
  rw [List.filterMap_map] at h3
  rw [h3, List.nil_append, List.map_map]
  congr 4
  exact filterMap_some'
end
end KN
set_option maxHeartbeats 200000
namespace KN
open PySem PySem.Spec PyProof.Rows L2
section
variable {S : DS} {Γ : DG}
theorem cutS_ok {n : Nat} {z : Str} {lo hi : Option Int} (h : okT n z) : okT n (cutS z lo hi) := by
  refine ⟨Nat.le_trans (cutS_length z lo hi) h.1, ok_codes.mpr fun c hc => ok_codes.mp h.2 c ?_⟩
  have hc' : c ∈ (z.cps.toList.drop (HT.sIx z.length 0 lo)).take (HT.sIx z.length z.length hi - HT.sIx z.length 0 lo) := hc
  exact List.mem_of_mem_drop (List.mem_of_mem_take hc')
theorem cut_from' {l : List DV} {k : Nat} : cutD l (some (k : Int)) none = l.drop k := by
  by_cases h : k ≤ l.length
  · exact cut_from h
  · unfold cutD
    rw [HT.sIx_nat, HT.sIx_none, Nat.min_eq_right (by omega), List.drop_of_length_le (Nat.le_refl _), List.drop_of_length_le (by omega)]
    simp
theorem cut_from1 {l : List DV} {k : Nat} : cutD l (some ((k : Int) + 1)) none = l.drop (k + 1) := by
  rw [show ((k : Int) + 1) = ((k + 1 : Nat) : Int) by omega, cut_from']
theorem cut_mid1 {l : List DV} {k : Nat} (h : k + 1 ≤ l.length) : cutD l (some (k : Int)) (some ((k : Int) + 1)) = (l.drop k).take 1 := by
  rw [show ((k : Int) + 1) = ((k + 1 : Nat) : Int) by omega, cut_mid (by omega) h]
  congr 1
  omega
theorem le_size {n : Nat} (h : n ≤ 1000) : (n ≤ sizeLine) = True := eq_true (Nat.le_trans h (by decide))
abbrev odd12 : List Str := ["free", "sweep", "take", "copy", "0", "2", "3", "", "02", "rest", "works", "x"]
theorem odd_clean : ∀ k ∈ odd12, clean k := by decide +kernel
theorem ne_len {l : List Str} (h : 0 < l.length) : l ≠ [] := List.length_pos_iff.mp h
def SpoilP (N m dn : Nat) (d : DV) (S' : DS) : Prop := ∃ ρ rows' o', d = .ref ρ ∧ RowsI (N + 1) (m + 1) rows' ∧ RndOk o' ∧ S'[dn]? = some o' ∧ S'[ρ]? = some (.lst (rows'.map .str)) ∧ ρ ≠ dn
theorem spoil_ok {N m dn rn : Nat} {o : DO} {rows : List Str} (h : S[dn]? = some o) (ho : RndOk o) (hr : S[rn]? = some (.lst (rows.map .str))) (hne : rn ≠ dn) (hi : RowsI N m rows) (hN : N ≤ 10) (hm : m ≤ 10) :
    ∃ d S', b__law_spoil_k12 [.ref dn, .ref rn] S = .ok d S' ∧ SpoilP N m dn d S' := by
  have hn := lt_some h
  obtain ⟨r0, rN, rR⟩ := hi
  have l0 : 0 < rows.length := List.length_pos_iff.mpr r0
  obtain ⟨r1, o1, ho1, i0, i1, e1⟩ := below_ok (k := (rows.length : Int)) h ho (by omega) (by omega)
  obtain ⟨i, rfl⟩ : ∃ i : Nat, r1 = i := ⟨r1.toNat, by omega⟩
  have hil : i < rows.length := by omega
  unfold b__law_spoil_k12
  refine RetP.fn2 ?_
  refine RetP_step fun rest hrest => ?_
  simp [hr, e1]
  subst hrest
  have h1 : (S.set dn o1)[dn]? = some o1 := get_set' hn
  have hr1 : (S.set dn o1)[rn]? = some (.lst (rows.map .str)) := by rw [List.getElem?_set_ne (Ne.symm hne)]; exact hr
  generalize S.set dn o1 = S1 at h1 hr1 ⊢
  obtain ⟨how, o2, ho2, j0, j1, e2⟩ := below_ok (k := 5) h1 ho1 (by decide) (by decide)
  refine RetP_step fun rest hrest => ?_
  simp [e2]
  subst hrest
  have h2 : (S1.set dn o2)[dn]? = some o2 := get_set' (lt_some h1)
  have hr2 : (S1.set dn o2)[rn]? = some (.lst (rows.map .str)) := by rw [List.getElem?_set_ne (Ne.symm hne)]; exact hr1
  generalize S1.set dn o2 = S2 at h2 hr2 ⊢
  have a2 := fun J => at_ext (J := J) hr2
  have d2 := fun J => at_ext (J := J) h2
  have hd2 := lt_some h2
  have cT : cutD (rows.map DV.str) none (some (i : Int)) = (rows.take i).map .str := by rw [cut_to (by simp; omega), List.map_take]
  have cF1 : cutD (rows.map DV.str) (some ((i : Int) + 1)) none = (rows.drop (i + 1)).map .str := by rw [cut_from1, List.map_drop]
  have cF : cutD (rows.map DV.str) (some (i : Int)) none = (rows.drop i).map .str := by rw [cut_from', List.map_drop]
  have cM : cutD (rows.map DV.str) (some (i : Int)) (some ((i : Int) + 1)) = ((rows.drop i).take 1).map .str := by rw [cut_mid1 (by simp; omega), List.map_take, List.map_drop]
  have memT : ∀ y ∈ rows.take i, Row m y := fun y hy => rR y (List.mem_of_mem_take hy)
  have memD : ∀ (k : Nat), ∀ y ∈ rows.drop k, Row m y := fun k y hy => rR y (List.mem_of_mem_drop hy)
  have z1 : (rows.take i).length = i := by simp; omega
  have z2 : (rows.drop (i + 1)).length = rows.length - (i + 1) := by simp
  have z3 : (rows.drop i).length = rows.length - i := by simp
  have z4 : ((rows.drop i).take 1).length ≤ 1 := by rw [List.length_take]; omega
  have big : ∀ (a b : Nat), a ≤ 1000 → b ≤ 1000 → (a + b ≤ sizeLine) := fun a b ha hb => Nat.le_trans (show a + b ≤ 2000 by omega) (by decide)
  generalize hA : rows.take i = A at cT memT z1
  generalize hB : rows.drop (i + 1) = B at cF1 z2
  generalize hC : rows.drop i = C at cF cM z3 z4
  have memB' : ∀ y ∈ B, Row m y := hB ▸ memD (i + 1)
  have memC : ∀ y ∈ C, Row m y := hC ▸ memD i
  generalize hD : C.take 1 = D at cM z4
  have memD' : ∀ y ∈ D, Row m y := fun y hy => memC y (by rw [← hD] at hy; exact List.mem_of_mem_take hy)
  have y1 := big A.length B.length (by omega) (by omega)
  have y2 := big A.length D.length (by omega) (by omega)
  have y3 := big C.length A.length (by omega) (by omega)
  have y4 := big (A.length + D.length) C.length (by omega) (by omega)
  have y5 := big (A.length + 1) B.length (by omega) (by omega)
  have y6 := big A.length 1 (by omega) (by omega)
  have fin : ∀ (ρ : Nat) (S' : DS) (rows' : List Str), (S'[dn]? = some o2) → S'[ρ]? = some (.lst (rows'.map .str)) → ρ ≠ dn → rows' ≠ [] → rows'.length ≤ N + 1 → (∀ y ∈ rows', Row (m + 1) y) → SpoilP N m dn (.ref ρ) S' := fun ρ S' rows' q1 q2 q3 q4 q5 q6 => ⟨ρ, rows', o2, rfl, ⟨q4, q5, q6⟩, ho2, q1, q2, q3⟩
  have hcase : how = 0 ∨ how = 1 ∨ how = 2 ∨ (how ≠ 0 ∧ how ≠ 1 ∧ how ≠ 2) := by omega
  refine RetP_step fun rest hrest => ?_
  rcases hcase with rfl | rfl | rfl | ⟨n0, n1, n2⟩
  · by_cases hb : 1 < rows.length
    · have hb' : (1 : Int) < rows.length := by omega
      simp [hr2, a2, hb, hb', cT, cF1, y1]
      refine fin _ _ (A ++ B) (d2 _) (by simp) (by omega) (ne_len (by rw [List.length_append]; omega)) (by rw [List.length_append]; omega) fun y hy => ?_
      rcases List.mem_append.mp hy with hy | hy
      · exact (memT y hy).le (by omega)
      · exact (memB' y hy).le (by omega)
    · have hb' : ¬ (1 : Int) < rows.length := by omega
      simp [hr2, a2, hb, hb']
      exact fin _ _ rows h2 hr2 hne r0 (by omega) fun y hy => (rR y hy).le (by omega)
  · simp
    subst hrest
    refine RetP_step fun rest hrest => ?_
    simp [hr2, a2, cT, cM, cF, y2, y4]
    refine fin _ _ (A ++ D ++ C) (d2 _) (by simp) (by omega) (ne_len (by rw [List.length_append]; omega)) (by rw [List.length_append, List.length_append]; omega) fun y hy => ?_
    rcases List.mem_append.mp hy with hy | hy
    · rcases List.mem_append.mp hy with hy | hy
      · exact (memT y hy).le (by omega)
      · exact (memD' y hy).le (by omega)
    · exact (memC y hy).le (by omega)
  · simp
    subst hrest
    refine RetP_step fun rest hrest => ?_
    simp
    subst hrest
    refine RetP_step fun rest hrest => ?_
    simp [hr2, a2, cT, cF, y3]
    refine fin _ _ (C ++ A) (d2 _) (by simp) (by omega) (ne_len (by rw [List.length_append]; omega)) (by rw [List.length_append]; omega) fun y hy => ?_
    rcases List.mem_append.mp hy with hy | hy
    · exact (memC y hy).le (by omega)
    · exact (memT y hy).le (by omega)
  · simp [n0]
    subst hrest
    refine RetP_step fun rest hrest => ?_
    simp [n1]
    subst hrest
    refine RetP_step fun rest hrest => ?_
    simp [n2]
    subst hrest
    -- the words of the row
    obtain ⟨ks, ey, k0, kl, kc⟩ := rR rows[i] (List.getElem_mem hil)
    have hat : atI (rows.map DV.str) (i : Int) = some (.str (Txt.join " " ks)) := by
      rw [atI_n, List.getElem?_map, List.getElem?_eq_getElem hil, Option.map_some, ey]
    have hz : (Txt.join " " ks).length + 2 ≤ sizeLine := by
      have := (row_okT ⟨ks, rfl, k0, kl, kc⟩ : okT (m * 9) _).1
      exact Nat.le_trans (show _ ≤ 200 by omega) (by decide)
    have hcut := cut_row k0 kc
    refine RetP_step fun rest hrest => ?_
    simp [hr2, hat, sp_len, hz, hcut]
    subst hrest
    have h3 := d2 [.lst (ks.map .str)]
    have r3 := a2 [.lst (ks.map .str)]
    have k3 : (S2 ++ [DO.lst (ks.map .str)])[S2.length]? = some (.lst (ks.map .str)) := by simp
    have nk : S2.length ≠ dn := by omega
    generalize S2.length = kn at k3 nk ⊢
    generalize S2 ++ [DO.lst (ks.map .str)] = S3 at h3 r3 k3 ⊢
    obtain ⟨r5, o5, ho5, p0, p1, e5⟩ := below_ok (k := (ks.length : Int) + 1) h3 ho2 (by omega) (by omega)
    obtain ⟨j, rfl⟩ : ∃ j : Nat, r5 = j := ⟨r5.toNat, by omega⟩
    refine RetP_step fun rest hrest => ?_
    simp [k3, e5]
    subst hrest
    have h4 : (S3.set dn o5)[dn]? = some o5 := get_set' (lt_some h3)
    have r4 : (S3.set dn o5)[rn]? = some (.lst (rows.map .str)) := by rw [List.getElem?_set_ne (Ne.symm hne)]; exact r3
    have k4 : (S3.set dn o5)[kn]? = some (.lst (ks.map .str)) := by rw [List.getElem?_set_ne (Ne.symm nk)]; exact k3
    generalize S3.set dn o5 = S4 at h4 r4 k4 ⊢
    have hd4 := lt_some h4
    obtain ⟨w, o6, q1, ho6, q3⟩ := pick_ok (S := S4 ++ [.lst (odd12.map .str)]) (n := dn) (m := S4.length) (l := odd12.map .str) (at_ext h4) ho5 (by simp) (by omega) (by simp) (by simp)
    obtain ⟨w, hw, rfl⟩ := List.mem_map.mp q1
    simp only [odd12, List.map_cons, List.map_nil] at q3
    refine RetP_step fun rest hrest => ?_
    simp [q3, le_sz]
    subst hrest
    have h5 : ((S4 ++ [DO.lst (odd12.map .str)]).set dn o6)[dn]? = some o6 := get_set' (lt_some (at_ext h4))
    have r5 : ((S4 ++ [DO.lst (odd12.map .str)]).set dn o6)[rn]? = some (.lst (rows.map .str)) := by rw [List.getElem?_set_ne (Ne.symm hne)]; exact at_ext r4
    have k5 : ((S4 ++ [DO.lst (odd12.map .str)]).set dn o6)[kn]? = some (.lst (ks.map .str)) := by rw [List.getElem?_set_ne (Ne.symm nk)]; exact at_ext k4
    simp only [odd12, List.map_cons, List.map_nil] at h5 r5 k5
    generalize List.set (S4 ++ [_]) dn o6 = S5 at h5 r5 k5 ⊢
    have hd5 := lt_some h5
    obtain ⟨d, hd, hdl⟩ : ∃ d : Nat, d = (if how = 4 then 1 else 0) ∧ d ≤ 1 := ⟨_, rfl, by split <;> omega⟩
    have cE : cutD (ks.map DV.str) none (some (j : Int)) = (ks.take j).map .str := by rw [cut_to (by simp; omega), List.map_take]
    have cF5 : cutD (ks.map DV.str) (some ((j : Int) + (if how = 4 then 1 else 0))) none = (ks.drop (j + d)).map .str := by
      rw [List.map_drop, ← cut_from', hd]
      congr 2
      split <;> omega
    have mE : ∀ y ∈ ks.take j, clean y := fun y hy => kc y (List.mem_of_mem_take hy)
    have mF : ∀ y ∈ ks.drop (j + d), clean y := fun y hy => kc y (List.mem_of_mem_drop hy)
    have lE : (ks.take j).length = j := by simp; omega
    have lF : (ks.drop (j + d)).length ≤ ks.length - j := by simp; omega
    generalize ks.take j = E at cE mE lE
    generalize ks.drop (j + d) = F at cF5 mF lF
    have x1 := big E.length 1 (by omega) (by omega)
    have x2 := big (E.length + 1) F.length (by omega) (by omega)
    have b5 := fun J => at_ext (J := J) k5
    refine RetP_step fun rest hrest => ?_
    have s5 : ∃ J ρ, (S5 ++ J)[ρ]? = some (.lst ((E ++ w :: F).map .str)) ∧ ρ ≠ dn ∧ (RetPB ((mSet 7 (mBin oAdd (mBin oAdd (mSl (mVar 4) mNoP (mPart (mVar 5))) (mLst (mCons (mVar 6) mNil))) (mSl (mVar 4) (mPart (mBin oAdd (mVar 5) (mIf (mTest (mBin (oEqF noT CWP.nf CWP.ic) (mVar 3) (mCst (.int 4)))) (mCst (.int 1)) (mCst (.int 0))))) mNoP))) [some (.ref dn), some (.ref rn), some (.int i), some (.int how), some (.ref kn), some (.int j), some (.str w), none] S5) rest (SpoilP N m dn) ↔ RetP rest [some (.ref dn), some (.ref rn), some (.int i), some (.int how), some (.ref kn), some (.int j), some (.str w), some (.ref ρ)] (S5 ++ J) (SpoilP N m dn)) := by
      refine ⟨[.lst (E.map .str), .lst [.str w], .lst (E.map .str ++ [.str w]), .lst (F.map .str), .lst ((E ++ w :: F).map .str)], S5.length + 4, by simp, by omega, ?_⟩
      by_cases h4 : how = 4
      · rw [if_pos h4] at cF5
        simp [k5, b5, h4, cE, cF5, x1, x2, le_sz]
      · rw [if_neg h4] at cF5
        simp at cF5
        simp [k5, b5, h4, cE, cF5, x1, x2, le_sz]
    obtain ⟨J, ρ, g1, g2, g3⟩ := s5
    refine g3.mpr ?_
    subst hrest
    have g4 := at_ext (J := J) h5
    have g5 := at_ext (J := J) r5
    generalize S5 ++ J = S6 at g1 g4 g5 ⊢
    have gd := lt_some g4
    have a6 := fun J => at_ext (J := J) g5
    have cl6 : ∀ y ∈ E ++ w :: F, clean y := fun y hy => by
      rcases List.mem_append.mp hy with hy | hy
      · exact mE y hy
      · rcases List.mem_cons.mp hy with rfl | hy
        · exact odd_clean _ hw
        · exact mF y hy
    have ln6 : (E ++ w :: F).length ≤ m + 1 := by rw [List.length_append, List.length_cons]; omega
    have ej := fun J => join_l (S := S6 ++ J) (sep := " ") (n := 8) (k := 20) (m := 1) (at_ext g1) (fun y hy => (cl6 y hy).1.1) (by omega) (by decide +kernel) (by decide)
    have rw6 : Row (m + 1) (Txt.join " " (E ++ w :: F)) := ⟨_, rfl, by simp, ln6, cl6⟩
    generalize Txt.join " " (E ++ w :: F) = row at ej rw6
    refine RetP_retE ?_
    simp [g5, a6, cT, cF1, ej, y6, y5, le_sz]
    refine ⟨_, A ++ row :: B, o6, rfl, ⟨by simp, by rw [List.length_append, List.length_cons]; omega, fun y hy => ?_⟩, ho6, at_ext g4, by simp, by omega⟩
    rcases List.mem_append.mp hy with hy | hy
    · exact (memT y hy).le (by omega)
    · rcases List.mem_cons.mp hy with rfl | hy
      · exact rw6
      · exact (memB' y hy).le (by omega)
end
end KN
set_option maxHeartbeats 200000
namespace KN
open PySem PySem.Spec PyProof.Rows L2
section
variable {S : DS} {Γ : DG}
theorem str_digit {r : Int} (h0 : 0 ≤ r) (h2 : r ≤ 2) : ∃ z : Str, z ∈ restW ∧ (∀ S, oStr [.int r] S = .ok (.str z) S) ∧ PySem.intText? z = some r ∧ clean z ∧ ("rest " : Str) ++ z = Txt.join " " ["rest", z] := by
  have : r = 0 ∨ r = 1 ∨ r = 2 := by omega
  rcases this with rfl | rfl | rfl
  · exact ⟨"0", by decide +kernel, fun S => by unfold oStr; dsimp only; rw [if_pos (by decide)]; rfl, by decide +kernel, by decide +kernel, by decide +kernel⟩
  · exact ⟨"1", by decide +kernel, fun S => by unfold oStr; dsimp only; rw [if_pos (by decide)]; rfl, by decide +kernel, by decide +kernel, by decide +kernel⟩
  · exact ⟨"2", by decide +kernel, fun S => by unfold oStr; dsimp only; rw [if_pos (by decide)]; rfl, by decide +kernel, by decide +kernel, by decide +kernel⟩
def rows0 (cs : List Str) (z : Str) (ws : List Str) : List Str := [Txt.join " " ("cares" :: cs), Txt.join " " ["rest", z], Txt.join " " ("works" :: ws)]
theorem cares_clean : ∀ k ∈ wCares, clean k := by decide +kernel
theorem works_clean : ∀ k ∈ wWorks, clean k := by decide +kernel
theorem cl_cons {a : Str} {l : List Str} (h : clean a) (hl : ∀ k ∈ l, clean k) : ∀ k ∈ a :: l, clean k := fun k hk => by
  rcases List.mem_cons.mp hk with rfl | hk
  · exact h
  · exact hl k hk
structure Drawn (cs ws : List Str) (z : Str) (r : Int) : Prop where
  c1 : ∀ k ∈ ("cares" : Str) :: cs, clean k
  c2 : ∀ k ∈ [("rest" : Str), z], clean k
  c3 : ∀ k ∈ ("works" : Str) :: ws, clean k
  l1 : cs.length ≤ 4
  l3 : ws.length ≤ 3
  st : ∀ S, oStr [.int r] S = .ok (.str z) S
  it : PySem.intText? z = some r
  rz : ("rest " : Str) ++ z = Txt.join " " ["rest", z]
  zr : z ∈ restW
theorem drawn_of {cs ws : List Str} {r : Int} (h : cs.Sublist wCares) (h0 : 0 ≤ r) (h2 : r ≤ 2) (w2 : (ws.length : Int) ≤ 3) (w3 : ∀ w ∈ ws, w ∈ wWorks) : ∃ z, Drawn cs ws z r := by
  obtain ⟨z, z1, z2, z3, z4, z5⟩ := str_digit h0 h2
  exact ⟨z, cl_cons (by decide +kernel) (fun k hk => cares_clean k (h.subset hk)), cl_cons (by decide +kernel) (fun k hk => by rw [List.mem_singleton] at hk; rw [hk]; exact z4), cl_cons (by decide +kernel) (fun k hk => works_clean k (w3 k hk)),
    by have := h.length_le; simpa [wCares] using this, by omega, z2, z3, z5, z1⟩
theorem Drawn.rows {cs ws : List Str} {z : Str} {r : Int} (d : Drawn cs ws z r) : RowsI 3 5 (rows0 cs z ws) := by
  refine ⟨by simp [rows0], by simp [rows0], fun y hy => ?_⟩
  have h1 := d.l1
  have h3 := d.l3
  simp only [rows0, List.mem_cons, List.not_mem_nil, or_false] at hy
  rcases hy with rfl | rfl | rfl
  · exact ⟨_, rfl, by simp, by simp; omega, d.c1⟩
  · exact ⟨_, rfl, by simp, by simp, d.c2⟩
  · exact ⟨_, rfl, by simp, by simp; omega, d.c3⟩
theorem len8 {l : List Str} (h : ∀ k ∈ l, clean k) : ∀ y ∈ l, y.length ≤ 8 := fun y hy => (h y hy).1.1
theorem Drawn.join1 {cs ws : List Str} {z : Str} {r : Int} (d : Drawn cs ws z r) (S : DS) : oJoin (.str " ") [.tup (.str "cares" :: cs.map .str)] S = .ok (.str (Txt.join " " ("cares" :: cs))) S := by
  have h1 := d.l1
  exact join_t (ys := "cares" :: cs) (n := 8) (k := 10) (m := 1) (len8 d.c1) (by simp; omega) (by decide +kernel) (by decide)
theorem Drawn.join3 {cs ws : List Str} {z : Str} {r : Int} (d : Drawn cs ws z r) (S : DS) : oJoin (.str " ") [.tup (.str "works" :: ws.map .str)] S = .ok (.str (Txt.join " " ("works" :: ws))) S := by
  have h1 := d.l3
  exact join_t (ys := "works" :: ws) (n := 8) (k := 10) (m := 1) (len8 d.c3) (by simp; omega) (by decide +kernel) (by decide)
theorem rows_ok {cs ws : List Str} {z : Str} {r : Int} (d : Drawn cs ws z r) : b__law_rows [.tup [.tup (cs.map .str), .int r, .tup (ws.map .str)]] S = .ok (.ref S.length) (S ++ [.lst ((rows0 cs z ws).map .str)]) := by
  have h1 := d.l1
  have h3 := d.l3
  have b1 : 1 + cs.length ≤ sizeLine := Nat.le_trans (show _ ≤ 100 by omega) (by decide)
  have b3 : 1 + ws.length ≤ sizeLine := Nat.le_trans (show _ ≤ 100 by omega) (by decide)
  have hz := (d.c2 z (by simp)).1.1
  have hl : ("rest " : Str).length = 5 := by decide +kernel
  have b2 : 5 + z.length ≤ sizeLine := Nat.le_trans (show _ ≤ 100 by omega) (by decide)
  have j1 := fun S => d.join1 S
  have j3 := fun S => d.join3 S
  simp [b__law_rows, b1, b3, j1, j3, d.st, hl, b2, d.rz, rows0, le_sz]
theorem write_ok {cs ws : List Str} {z : Str} {r : Int} {n : Nat} (d : Drawn cs ws z r) (h : S[n]? = some (ruleO (.tup (cs.map .str)) (.int r) (.tup (ws.map .str)))) : ∃ J, b_write [.ref n] S = .ok (.str (textT (rows0 cs z ws))) (S ++ J) := by
  have a1 := fun J => at_ext (J := J) h
  have a0 := h
  unfold ruleO at a0 a1
  have h1 := d.l1
  have h3 := d.l3
  have b1 : cs.length + 1 ≤ sizeLine := Nat.le_trans (show _ ≤ 100 by omega) (by decide)
  have b3 : ws.length + 1 ≤ sizeLine := Nat.le_trans (show _ ≤ 100 by omega) (by decide)
  have ok := d.rows
  have len : ∀ y ∈ rows0 cs z ws, y.length ≤ 45 := fun y hy => (row_okT (ok.2.2 y hy)).1
  have e1 := len (Txt.join " " ("cares" :: cs)) (by simp [rows0])
  have e2 := len (Txt.join " " ["rest", z]) (by simp [rows0])
  have e3 := len (Txt.join " " ("works" :: ws)) (by simp [rows0])
  have hn : ("\n" : Str).length = 1 := by decide +kernel
  have s1 : (Txt.join " " ("cares" :: cs)).length + 1 ≤ sizeLine := Nat.le_trans (show _ ≤ 100 by omega) (by decide)
  have s2 : (Txt.join " " ["rest", z]).length + 1 ≤ sizeLine := Nat.le_trans (show _ ≤ 100 by omega) (by decide)
  have s3 : (Txt.join " " ("works" :: ws)).length + 1 ≤ sizeLine := Nat.le_trans (show _ ≤ 100 by omega) (by decide)
  have j1 := fun (S : DS) (p : Nat) (hp : S[p]? = some (.lst (.str "cares" :: cs.map .str))) => join_l (S := S) (p := p) (sep := " ") (ys := "cares" :: cs) (n := 8) (k := 10) (m := 1) hp (len8 d.c1) (by simp; omega) (by decide +kernel) (by decide)
  have j2 := fun (S : DS) (p : Nat) (hp : S[p]? = some (.lst [.str "rest", .str z])) => join_l (S := S) (p := p) (sep := " ") (ys := ["rest", z]) (n := 8) (k := 10) (m := 1) hp (len8 d.c2) (by simp) (by decide +kernel) (by decide)
  have j3 := fun (S : DS) (p : Nat) (hp : S[p]? = some (.lst (.str "works" :: ws.map .str))) => join_l (S := S) (p := p) (sep := " ") (ys := "works" :: ws) (n := 8) (k := 10) (m := 1) hp (len8 d.c3) (by simp; omega) (by decide +kernel) (by decide)
  have jj := fun (S : DS) (p : Nat) (hp : S[p]? = some (.lst (((rows0 cs z ws).map fun y => y ++ ("\n" : Str)).map .str))) => join_l (S := S) (p := p) (sep := "") (ys := (rows0 cs z ws).map fun y => y ++ ("\n" : Str)) (n := 46) (k := 10) (m := 0) hp (fun y hy => by
    obtain ⟨x, hx, rfl⟩ := List.mem_map.mp hy
    have := len x hx
    rw [Str.length_append, hn]
    omega) (by simp [rows0]) (by decide +kernel) (by decide)
  unfold textT
  simp only [rows0, List.map_cons, List.map_nil] at jj ⊢
  refine ⟨[.lst (.str "cares" :: cs.map .str), .lst [.str "rest", .str z], .lst (.str "works" :: ws.map .str), .lst [.ref S.length, .ref (S.length + 1), .ref (S.length + 2)], .lst [.str (Txt.join " " ("cares" :: cs) ++ ("\n" : Str)), .str (Txt.join " " ["rest", z] ++ ("\n" : Str)), .str (Txt.join " " ("works" :: ws) ++ ("\n" : Str))]], ?_⟩
  simp [b_write, a0, a1, le_sz, lt_sz, d.st, b1, b3, hn, j1, j2, j3, jj, s1, s2, s3]
end
end KN
set_option maxHeartbeats 200000
namespace KN
open PySem PySem.Spec PyProof.Rows L2
section
variable {S : DS} {Γ : DG}
theorem due_0 {cs ws : List Str} {z : Str} {r : Int} (d : Drawn cs ws z r) (h : cs.Sublist wCares) (w1 : 1 ≤ ws.length) (w3 : ∀ w ∈ ws, w ∈ wWorks) : dueD (rows0 cs z ws) "" = .non := by
  have o0 : okLine 0 (Txt.join " " ("cares" :: cs)) = true := by
    rw [okLine, cut_row (by simp) d.c1]
    have : cs.all (memB wCares) = true := List.all_eq_true.mpr fun x hx => decide_eq_true (h.subset hx)
    have e := sub_sort h
    simp only [rowP, rowR, if_pos, head_k, this, Bool.true_and, decide_true]
    exact decide_eq_true e
  have o1 : okLine 1 (Txt.join " " ["rest", z]) = true := by
    rw [okLine, cut_row (by simp) d.c2]
    have := d.zr
    simp [rowP, rowR, head_k, memB, this]
  have o2 : okLine 2 (Txt.join " " ("works" :: ws)) = true := by
    rw [okLine, cut_row (by simp) d.c3]
    have : ws.all (memB wWorks) = true := List.all_eq_true.mpr fun x hx => decide_eq_true (w3 x hx)
    have l3 := d.l3
    simp only [rowP, rowR, head_k, this]
    simp [l3]
    omega
  have f : firstBad 0 (rows0 cs z ws) = none := by
    simp only [rows0, firstBad, o0, o1, o2, if_true, Nat.zero_add, Nat.reduceAdd]
  unfold dueD
  rw [f]
  simp [rows0]
theorem read_0 {cs ws : List Str} {z : Str} {r : Int} (d : Drawn cs ws z r) (h : cs.Sublist wCares) (w1 : 1 ≤ ws.length) (w3 : ∀ w ∈ ws, w ∈ wWorks) :
    ∃ S' ν, b_read [.str (textT (rows0 cs z ws))] S = .ok (.ref ν) S' ∧ (∀ (m : Nat) o, S[m]? = some o → S'[m]? = some o) ∧ S'[ν]? = some (ruleO (.tup (cs.map .str)) (.int r) (.tup (ws.map .str))) := by
  have ok := d.rows
  have hT : okT 900 (textT (rows0 cs z ws)) := (text_ok ok).le (by decide)
  obtain ⟨S', ν, y0, y1, y2, x0, n, x2, e1, e2, e3, e4, ⟨q, e5, e6⟩, e7, e8, _⟩ := (read_ok (S := S) hT (text_cut fun y hy => row_nl (ok.2.2 y hy))).2 (due_0 d h w1 w3)
  refine ⟨S', ν, e1, e2, ?_⟩
  simp only [rows0, List.cons.injEq, and_true] at e3
  obtain ⟨rfl, rfl, rfl⟩ := e3
  rw [cut_row (by simp) d.c1] at e4
  rw [cut_row (by simp) d.c2] at e5
  rw [cut_row (by simp) d.c3] at e7
  simp only [List.tail_cons, List.cons.injEq, and_true] at e4 e5 e7
  subst e4 e5 e7
  rw [d.it] at e6
  cases e6
  exact e8
abbrev loopF : SM := mFor (mRng1 (mCons (mBin oAdd (mCst (.int 1)) (mCallF b__law_below [] (mCons (mVar 1) (mCons (mCst (.int 2)) mNil)))) mNil)) (gSet 6) (mSet 4 (mCallF b__law_spoil_k12 [] (mCons (mVar 1) (mCons (mVar 4) mNil))))
theorem loop_ok {dn rl : Nat} {o : DO} {rows : List Str} {x0 x2 x3 x5 : Option DV} (h : S[dn]? = some o) (ho : RndOk o) (hr : S[rl]? = some (.lst (rows.map .str))) (hne : rl ≠ dn) (hi : RowsI 3 5 rows) :
    ∃ S9 ρ9 rows9 o9 y6, loopF [x0, some (.ref dn), x2, x3, some (.ref rl), x5, none, none, none] S = .ok (.nx, [x0, some (.ref dn), x2, x3, some (.ref ρ9), x5, y6, none, none]) S9 ∧ RowsI 5 7 rows9 ∧ S9[dn]? = some o9 ∧ RndOk o9 ∧ S9[ρ9]? = some (.lst (rows9.map .str)) ∧ ρ9 ≠ dn := by
  obtain ⟨r, o1, ho1, r0, r1, e1⟩ := below_ok (k := 2) h ho (by decide) (by decide)
  have h1 : (S.set dn o1)[dn]? = some o1 := get_set' (lt_some h)
  have hr1 : (S.set dn o1)[rl]? = some (.lst (rows.map .str)) := by rw [List.getElem?_set_ne (Ne.symm hne)]; exact hr
  obtain ⟨d, S8, e8, ρ8, rows8, o8, rfl, i8, ho8, h8, hr8, n8⟩ := spoil_ok h1 ho1 hr1 hne hi (by decide) (by decide)
  have : r = 0 ∨ r = 1 := by omega
  rcases this with rfl | rfl
  · refine ⟨S8, ρ8, rows8, o8, some (.int 0), by simp [e1, e8], ⟨i8.1, by have := i8.2.1; omega, fun y hy => (i8.2.2 y hy).le (by omega)⟩, h8, ho8, hr8, n8⟩
  · obtain ⟨d, S9, e9, ρ9, rows9, o9, rfl, i9, ho9, h9, hr9, n9⟩ := spoil_ok h8 ho8 hr8 n8 i8 (by decide) (by decide)
    exact ⟨S9, ρ9, rows9, o9, some (.int 1), by simp [e1, e8, e9], i9, h9, ho9, hr9, n9⟩
theorem text_step {rn : Nat} {rows : List Str} {x0 x1 x2 x3 x5 x6 : Option DV} {mt : Str → Str → Option DFn} (h : S[rn]? = some (.lst (rows.map .str))) {N m : Nat} (hi : RowsI N m rows) (hN : N ≤ 5) (hm : m ≤ 7) :
    ∃ J, mSet 5 (mCallM mt "join" (mCst (.str "")) (mCons (mLc (mSrc (mVar 4)) [7, 8] (gSet 8) mYes (mBin oAdd (mVar 8) (mCst (.str "\n")))) mNil)) [x0, x1, x2, x3, some (.ref rn), x5, x6, none, none] S =
      .ok (.nx, [x0, x1, x2, x3, some (.ref rn), some (.str (textT rows)), x6, none, none]) (S ++ J) ∧ okT 330 (textT rows) := by
  have len : ∀ y ∈ rows, y.length ≤ 63 := fun y hy => Nat.le_trans (row_okT (hi.2.2 y hy)).1 (by omega)
  have hl : rows.length ≤ 5 := Nat.le_trans hi.2.1 hN
  have tc := text_comp (S := S) (x0 := x0) (x1 := x1) (x2 := x2) (x3 := x3) (x4 := some (.ref rn)) (x5 := x5) (x6 := x6) h (by omega) (fun y hy => Nat.le_trans (len y hy) (by decide))
  have hn : ("\n" : Str).length = 1 := by decide +kernel
  have jj := join_l (S := S ++ [.lst ((rows.map fun y => y ++ ("\n" : Str)).map .str)]) (p := S.length) (sep := "") (ys := rows.map fun y => y ++ ("\n" : Str)) (n := 64) (k := 10) (m := 0) (by simp) (fun y hy => by
    obtain ⟨x, hx, rfl⟩ := List.mem_map.mp hy
    have := len x hx
    rw [Str.length_append, hn]
    omega) (by rw [List.length_map]; omega) (by decide +kernel) (by decide)
  refine ⟨[.lst ((rows.map fun y => y ++ ("\n" : Str)).map .str)], ?_, (text_ok hi).le (by
    have := Nat.mul_le_mul hN (show m * 9 + 1 ≤ 64 by omega)
    omega)⟩
  unfold textT
  generalize (rows.map fun y => y ++ ("\n" : Str)).map DV.str = L at tc jj ⊢
  simp [h, tc, jj, -lcL_cons]
theorem law_k12 {ns : List Int} (hn : ns.length ≤ 63) : ∃ S, b_law_k12 [.scr ns] [] = .ok (.bl true) S := by
  unfold b_law_k12
  refine Ret.fn1 ?_
  -- the source
  obtain ⟨o, x, y, ho, e0⟩ := random_ok (S := []) (ns := ns) (salt := 892) (by decide) (by omega)
  refine Ret_step fun rest hrest => ?_
  simp [e0]
  subst hrest
  have h1 : ([x, y, o] : DS)[2]? = some o := rfl
  generalize ([x, y, o] : DS) = S1 at h1 ⊢
  -- the drawn parts
  obtain ⟨cs, r, ws, o1, J1, c1, c2, c3, c4, c5, c6, ho1, e1⟩ := draw_ok (mr := 2) (mw := 3) h1 ho (by decide) (by decide)
  refine Ret_step fun rest hrest => ?_
  simp [e1]
  subst hrest
  have h2 := at_new (o := o1) (J := J1) h1
  generalize S1.set 2 o1 ++ J1 = S2 at h2 ⊢
  obtain ⟨g1, g2, g3, lc, lw⟩ := drawn_good (N := 0) c1 c2 c3 c4 c5 c6
  obtain ⟨z, dr⟩ := drawn_of c1 c2 c3 c5 c6
  have gp := good_of g1 g2 g3
  -- the rule
  obtain ⟨J2, e2⟩ := law_rule_ok (S := S2) g1 g2 g3 lc lw
  refine Ret_step fun rest hrest => ?_
  simp [e2]
  subst hrest
  have hρ : (S2 ++ ruleO (.tup (cs.map .str)) (.int r) (.tup (ws.map .str)) :: J2)[S2.length]? = some (ruleO (.tup (cs.map .str)) (.int r) (.tup (ws.map .str))) := by simp
  have h3 := at_ext (J := ruleO (.tup (cs.map .str)) (.int r) (.tup (ws.map .str)) :: J2) h2
  generalize S2.length = ρ at hρ ⊢
  generalize S2 ++ ruleO (.tup (cs.map .str)) (.int r) (.tup (ws.map .str)) :: J2 = S3 at hρ h3 ⊢
  -- the rows
  refine Ret_step fun rest hrest => ?_
  simp [rows_ok dr]
  subst hrest
  have hl : (S3 ++ [DO.lst ((rows0 cs z ws).map .str)])[S3.length]? = some (.lst ((rows0 cs z ws).map .str)) := by simp
  have h4 := at_ext (J := [DO.lst ((rows0 cs z ws).map .str)]) h3
  have hρ4 := at_ext (J := [DO.lst ((rows0 cs z ws).map .str)]) hρ
  have nl : S3.length ≠ 2 := by have := lt_some h3; omega
  generalize S3.length = rl at hl nl ⊢
  generalize S3 ++ [DO.lst ((rows0 cs z ws).map .str)] = S4 at hl h4 hρ4 ⊢
  -- the text
  refine Ret_step fun rest hrest => ?_
  obtain ⟨J5, e5, _⟩ := text_step (S := S4) (x0 := some (.scr ns)) (x1 := some (.ref 2)) (x2 := some (.tup [.tup (cs.map .str), .int r, .tup (ws.map .str)])) (x3 := some (.ref ρ)) (x5 := none) (x6 := none) (mt := look2 [("Rule", "__eq__", b_Rule___eq__)]) hl dr.rows (by decide) (by decide)
  refine (RetB_cong e5).mpr ?_
  simp
  subst hrest
  have hl5 := at_ext (J := J5) hl
  have h5 := at_ext (J := J5) h4
  have hρ5 := at_ext (J := J5) hρ4
  generalize S4 ++ J5 = S5 at hl5 h5 hρ5 ⊢
  -- written and read
  refine Ret_step fun rest hrest => ?_
  obtain ⟨J6, e6⟩ := write_ok (S := S5) dr hρ5
  obtain ⟨S6, ν, e7, k7, hν⟩ := read_0 (S := S5 ++ J6) dr c1 c4 c6
  have hρ6 := k7 _ _ (at_ext hρ5)
  have hl6 := k7 _ _ (at_ext hl5)
  have h6 := k7 _ _ (at_ext h5)
  obtain ⟨p1, p2, p3⟩ := gp.pd
  have k1 := fun (S : DS) => eq_pd (S := S) (neg := true) p1 p1
  have k2 := fun (S : DS) => eq_pd (S := S) (neg := true) p2 p2
  have k3 := fun (S : DS) => eqf_pd (S := S) (mt := noT) (nf := CWP.nf) (ic := CWP.ic) p3 p3
  have a0 := hρ6
  have a1 := hν
  unfold ruleO at a0 a1
  simp [e6, e7, eqF_r, a0, a1, b_Rule___eq__, k1, k2, k3]
  subst hrest
  -- spoiled
  obtain ⟨S9, ρ9, rows9, o9, y6, e9, i9, h9, ho9, hr9, n9⟩ := loop_ok (S := S6) (x0 := some (.scr ns)) (x2 := some (.tup [.tup (cs.map .str), .int r, .tup (ws.map .str)])) (x3 := some (.ref ρ)) (x5 := some (.str (textT (rows0 cs z ws)))) h6 ho1 hl6 nl dr.rows
  refine Ret_step fun rest hrest => ?_
  refine (RetB_cong e9).mpr ?_
  simp
  subst hrest
  refine Ret_step fun rest hrest => ?_
  obtain ⟨J10, e10, ok10⟩ := text_step (S := S9) (x0 := some (.scr ns)) (x1 := some (.ref 2)) (x2 := some (.tup [.tup (cs.map .str), .int r, .tup (ws.map .str)])) (x3 := some (.ref ρ)) (x5 := some (.str (textT (rows0 cs z ws)))) (x6 := y6) (mt := look2 [("Rule", "__eq__", b_Rule___eq__)]) hr9 i9 (by decide) (by decide)
  refine (RetB_cong e10).mpr ?_
  simp
  subst hrest
  have h10 := at_ext (J := J10) h9
  generalize S9 ++ J10 = S10 at h10 ⊢
  generalize textT rows9 = T at ok10 ⊢
  -- the last sign off
  obtain ⟨q, o11, ho11, q0, q1, e11⟩ := below_ok (k := 4) h10 ho9 (by decide) (by decide)
  have h11 : (S10.set 2 o11)[2]? = some o11 := get_set' (lt_some h10)
  refine Ret_step fun rest hrest => ?_
  have s11 : ∃ T', okT 330 T' ∧ (RetB (mIfS (mTest (mBin (oEqF (look2 [("Rule", "__eq__", b_Rule___eq__)]) CWP.nf CWP.ic) (mCallF b__law_below [] (mCons (mVar 1) (mCons (mCst (.int 4)) mNil))) (mCst (.int 0)))) (mSet 5 (mSl (mVar 5) mNoP (mPart (mNeg (mCst (.int 1)))))) mNext [some (.scr ns), some (.ref 2), some (.tup [.tup (cs.map .str), .int r, .tup (ws.map .str)]), some (.ref ρ), some (.ref ρ9), some (.str T), y6, none, none] S10) rest (.bl true) ↔
      Ret rest [some (.scr ns), some (.ref 2), some (.tup [.tup (cs.map .str), .int r, .tup (ws.map .str)]), some (.ref ρ), some (.ref ρ9), some (.str T'), y6, none, none] (S10.set 2 o11) (.bl true)) := by
    have sz : T.length ≤ sizeLine := Nat.le_trans ok10.1 (by decide)
    by_cases c : q = 0
    · exact ⟨_, cutS_ok ok10, by simp [e11, c, sz]; rfl⟩
    · exact ⟨T, ok10, by simp [e11, c]⟩
  obtain ⟨T', ok11, g11⟩ := s11
  refine g11.mpr ?_
  subst hrest
  generalize S10.set 2 o11 = S11 at h11 ⊢
  clear g11
  -- something behind
  obtain ⟨q', o12, ho12, q0', q1', e12⟩ := below_ok (k := 6) h11 ho11 (by decide) (by decide)
  have h12 : (S11.set 2 o12)[2]? = some o12 := get_set' (lt_some h11)
  refine Ret_step fun rest hrest => ?_
  have s12 : ∃ T'' S12, okT 900 T'' ∧ (RetB (mIfS (mTest (mBin (oEqF (look2 [("Rule", "__eq__", b_Rule___eq__)]) CWP.nf CWP.ic) (mCallF b__law_below [] (mCons (mVar 1) (mCons (mCst (.int 6)) mNil))) (mCst (.int 0)))) (mSet 5 (mBin oAdd (mVar 5) (mCallF b__law_pick [] (mCons (mVar 1) (mCons (mLst (mCons (mCst (.str " ")) (mCons (mCst (.str "\n")) (mCons (mCst (.str "rest 0")) mNil)))) mNil))))) mNext [some (.scr ns), some (.ref 2), some (.tup [.tup (cs.map .str), .int r, .tup (ws.map .str)]), some (.ref ρ), some (.ref ρ9), some (.str T'), y6, none, none] S11) rest (.bl true) ↔
      Ret rest [some (.scr ns), some (.ref 2), some (.tup [.tup (cs.map .str), .int r, .tup (ws.map .str)]), some (.ref ρ), some (.ref ρ9), some (.str T''), y6, none, none] S12 (.bl true)) := by
    by_cases c : q' = 0
    · obtain ⟨w, o13, m13, ho13, e13⟩ := pick_ok (S := S11.set 2 o12 ++ [.lst [.str " ", .str "\n", .str "rest 0"]]) (n := 2) (m := S11.length) (l := [.str " ", .str "\n", .str "rest 0"]) (at_ext h12) ho12 (by rw [at_set0 (lt_some h11)]; rfl) (by have := lt_some h11; omega) (by simp) (by simp)
      obtain ⟨v, rfl, hv⟩ : ∃ v : Str, w = .str v ∧ okT 6 v := by
        simp only [List.mem_cons, List.not_mem_nil, or_false] at m13
        rcases m13 with rfl | rfl | rfl
        · exact ⟨_, rfl, by unfold okT; decide +kernel⟩
        · exact ⟨_, rfl, by unfold okT; decide +kernel⟩
        · exact ⟨_, rfl, by unfold okT; decide +kernel⟩
      have sz : T'.length + v.length ≤ sizeLine := Nat.le_trans (Nat.add_le_add ok11.1 hv.1) (by decide)
      exact ⟨T' ++ v, _, (cat_ok ok11 hv).le (by decide), by simp [e12, c, le_sz, e13, sz]; rfl⟩
    · exact ⟨T', _, ok11.le (by decide), by simp [e12, c]; rfl⟩
  obtain ⟨T'', S12, ok12, g12⟩ := s12
  refine g12.mpr ?_
  subst hrest
  -- told and due
  obtain ⟨rows, left, er⟩ : ∃ rows left, Txt.split T'' "\n" = rows ++ [left] := by
    have := (split_ok (.inr rfl) ok12).1
    exact ⟨_, _, (List.dropLast_concat_getLast this).symm⟩
  obtain ⟨S13, e13⟩ := told_12 (S := S12) ok12 er
  obtain ⟨S14, e14⟩ := due_12 (S := S13) ok12 er
  refine Ret_ret.mpr ?_
  rcases dueD_or rows left with ⟨k, hk⟩ | hk
  · rw [hk] at e13 e14
    simp [e13, e14]
  · rw [hk] at e13 e14
    simp [e13, e14]
end
end KN
open PySem PySem.W PyProof.Rows
theorem PySem.Challenge.cw_kindnumber_k12_whole_texts_holds : PySem.Challenge.rw_kindnumber_k12_whole_texts.Holds := by
  exact KN.k12.holds fun ns h => KN.law_k12 h
