import PyProof.Rows.All
import Wide.All
import OpenK.AllK
import Wide.FinOn
import HandS.ForMost
import HandS.AnyAll
import KE.KDictKeyed
import KE.SortData
import HandS.TupAny
import HandS.Wide
import HandS.WideBits
import HandS.Deep
import HandS.NoneIn
import HandS.Style
import HandS.Flow
import HandS.Iter
import HandS.Walk
import HandS.Comp
import HandS.Exc
import HandS.WordsExc
import KE.GoesNew
import HandS.IsInst
import HandS.Head0
import HandS.Head1
import HandS.Head2
import HandS.HeadEnd
import HandS.HeadHook1
import HandS.HeadHook2
import HandS.HeadWalk
import KE.KNestM
import KE.IntBitsLaws
import HandS.SetFor
import HandS.Strs
import KE.KIndexOf
import HandS.Dict
import PySem.Challenge.RW_allbranches_k73_planes_and_paulis
set_option Elab.async false
set_option linter.all false
set_option maxRecDepth 100000
set_option maxHeartbeats 2000000
/-! # Dn: plain data over the hand layer. What a value is worth (a tree of plain data), what stands still (F), what the body owns and may change. -/
namespace Dn
open PySem PySem.Spec PyProof.Rows L2

abbrev D := PyData

/-! ### keys of dicts: ints and texts; tuples of ints (nested) -/
mutual
/-- a key of ints alone -/
def keyOf : D → Option NestedKey
  | .int i => some (.num i)
  | .tuple ds => (keysOf ds).map .tup
  | _ => none
def keysOf : List D → Option (List NestedKey)
  | [] => some []
  | d :: ds => (keyOf d).bind fun k => (keysOf ds).map (k :: ·)
end
mutual
theorem keyOf_hash (w w' : World) : ∀ (d : D) (k : NestedKey), keyOf d = some k → k.hash w = k.hash w'
  | .int i, k, h => by cases h; rfl
  | .tuple ds, k, h => by
    cases q : keysOf ds with
    | none => rw [keyOf, q] at h; cases h
    | some ks => rw [keyOf, q] at h; cases h; rw [NestedKey.hash, NestedKey.hash, keysOf_hash w w' ds ks q]
  | .none, _, h => by cases h
  | .bool _, _, h => by cases h
  | .str _, _, h => by cases h
  | .list _, _, h => by cases h
  | .dict _, _, h => by cases h
theorem keysOf_hash (w w' : World) : ∀ (ds : List D) (ks : List NestedKey), keysOf ds = some ks → NestedKey.hashes w ks = NestedKey.hashes w' ks
  | [], _, h => by cases h; rfl
  | d :: ds, ks, h => by
    cases q : keyOf d with
    | none => rw [keysOf, q] at h; cases h
    | some k =>
      cases q2 : keysOf ds with
      | none => rw [keysOf, q, q2] at h; cases h
      | some ks' =>
        rw [keysOf, q, q2] at h
        cases h
        rw [NestedKey.hashes, NestedKey.hashes, keyOf_hash w w' d k q, keysOf_hash w w' ds ks' q2]
end
mutual
theorem keyOf_inj : ∀ (d e : D) (k : NestedKey), keyOf d = some k → keyOf e = some k → d = e
  | .int i, e, k, h, g => by
    cases h
    cases e with
    | int j => cases g; rfl
    | tuple es => cases q : keysOf es with
      | none => rw [keyOf, q] at g; cases g
      | some ks => rw [keyOf, q] at g; cases g
    | _ => cases g
  | .tuple ds, e, k, h, g => by
    cases q : keysOf ds with
    | none => rw [keyOf, q] at h; cases h
    | some ks =>
      rw [keyOf, q] at h; cases h
      cases e with
      | int j => cases g
      | tuple es => cases q2 : keysOf es with
        | none => rw [keyOf, q2] at g; cases g
        | some ks2 => rw [keyOf, q2] at g; cases g; rw [keysOf_inj ds es ks q q2]
      | _ => cases g
  | .none, _, _, h, _ => by cases h
  | .bool _, _, _, h, _ => by cases h
  | .str _, _, _, h, _ => by cases h
  | .list _, _, _, h, _ => by cases h
  | .dict _, _, _, h, _ => by cases h
theorem keysOf_inj : ∀ (ds es : List D) (ks : List NestedKey), keysOf ds = some ks → keysOf es = some ks → ds = es
  | [], es, ks, h, g => by
    cases h
    cases es with
    | nil => rfl
    | cons e es => cases q : keyOf e with
      | none => rw [keysOf, q] at g; cases g
      | some k => cases q2 : keysOf es with
        | none => rw [keysOf, q, q2] at g; cases g
        | some ks => rw [keysOf, q, q2] at g; cases g
  | d :: ds, es, ks, h, g => by
    cases q : keyOf d with
    | none => rw [keysOf, q] at h; cases h
    | some k =>
      cases q2 : keysOf ds with
      | none => rw [keysOf, q, q2] at h; cases h
      | some ks' =>
        rw [keysOf, q, q2] at h; cases h
        cases es with
        | nil => cases g
        | cons e es => cases q3 : keyOf e with
          | none => rw [keysOf, q3] at g; cases g
          | some k3 => cases q4 : keysOf es with
            | none => rw [keysOf, q3, q4] at g; cases g
            | some ks4 => rw [keysOf, q3, q4] at g; cases g; rw [keyOf_inj d e _ q q3, keysOf_inj ds es _ q2 q4]
end
def keyD : Key → D
  | .inl i => .int i
  | .inr x => .str x
theorem keyD_inj : ∀ {k k' : Key}, keyD k = keyD k' → k = k'
  | .inl _, .inl _, h => by cases h; rfl
  | .inr _, .inr _, h => by cases h; rfl
  | .inl _, .inr _, h => by cases h
  | .inr _, .inl _, h => by cases h
/-- the dict at a with tuple keys: key, the key's place, value -/
def DkP (a : Addr) (kvs : List (NestedKey × Addr × V)) (h : Heap) : Prop := kvs.length ≤ sizeLine ∧ (a == sysModules) = false ∧ ∃ xs : List (NestedKey × Addr × Value),
  Paired (fun (p : NestedKey × Addr × V) (q : NestedKey × Addr × Value) => p.1 = q.1 ∧ p.2.1 = q.2.1 ∧ RelV p.2.2 q.2.2) kvs xs ∧
  ∃ ob es ep, h.get? a = some ob ∧ ob.ExactDict ∧ ob.data = .dict es ep ∧ (∀ P w, es.toList = xs.map (entryOfKey (nestedKind P w))) ∧ (xs.map (·.1)).Nodup
abbrev DkO (a : Addr) (kvs : List (NestedKey × Addr × V)) : HO := .ext (DkP a kvs)

/-- a tuple at a, whose object has no dict -/
def SqN (K : PySem.W.Frag) (F : Hp) (a : Addr) (vs : List V) : Prop := (∃ o : Obj, F a = some (.frz o (.tup vs)) ∧ o.dict = none) ∨ ((∃ o : Obj, K.lookup a = some o ∧ o.dict = none) ∧ SqT K F a vs)
theorem SqN.t {K : PySem.W.Frag} {F : Hp} {a : Addr} {vs : List V} (h : SqN K F a vs) : SqT K F a vs := h.elim (fun ⟨o, h, _⟩ => .inl (.inr ⟨o, h⟩)) fun h => h.2
/-! ### what stands still -/
mutual
inductive RepF (K : PySem.W.Frag) (F : Hp) : V → D → Prop
  | non : RepF K F .non .none
  | bl (b : Bool) : RepF K F (.bl b) (.bool b)
  | int (i : Int) : RepF K F (.int i) (.int i)
  | str (x : Str) : RepF K F (.str x) (.str x)
  | lst {a : Addr} {vs : List V} {ds : List D} : F a = some (.lst vs) → RepFs K F vs ds → RepF K F (.ref a) (.list ds)
  | tup {a : Addr} {vs : List V} {ds : List D} : SqN K F a vs → RepFs K F vs ds → RepF K F (.ref a) (.tuple ds)
  | dic {a : Addr} {o : Obj} {kvs : List (Key × V)} {kds : List (D × D)} : F a = some (.frz o (.dK kvs)) → RepKs K F kvs kds → RepF K F (.ref a) (.dict kds)
  | dit {a : Addr} {o : Obj} {kvs : List (NestedKey × Addr × V)} {kds : List (D × D)} : F a = some (.frz o (DkO a kvs)) → RepTs K F kvs kds → RepF K F (.ref a) (.dict kds)
inductive RepFs (K : PySem.W.Frag) (F : Hp) : List V → List D → Prop
  | nil : RepFs K F [] []
  | cons {v : V} {vs : List V} {d : D} {ds : List D} : RepF K F v d → RepFs K F vs ds → RepFs K F (v :: vs) (d :: ds)
inductive RepKs (K : PySem.W.Frag) (F : Hp) : List (Key × V) → List (D × D) → Prop
  | nil : RepKs K F [] []
  | cons {k : Key} {v : V} {kvs : List (Key × V)} {d : D} {kds : List (D × D)} : RepF K F v d → RepKs K F kvs kds → RepKs K F ((k, v) :: kvs) ((keyD k, d) :: kds)
inductive RepTs (K : PySem.W.Frag) (F : Hp) : List (NestedKey × Addr × V) → List (D × D) → Prop
  | nil : RepTs K F [] []
  | cons {k : NestedKey} {q : Addr} {v : V} {kvs : List (NestedKey × Addr × V)} {kd d : D} {kds : List (D × D)} : RepF K F (.ref q) kd → keyOf kd = some k → k.depth ≤ 8 → RepF K F v d → RepTs K F kvs kds → RepTs K F ((k, q, v) :: kvs) ((kd, d) :: kds)
end

theorem sqT_mono {K : PySem.W.Frag} {F F' : Hp} {a : Addr} {xs : List V} (e : Same F F') (h : SqT K F a xs) : SqT K F' a xs := by
  rcases h with (h | ⟨o, h⟩) | h
  · exact .inl (.inl (e _ _ h))
  · exact .inl (.inr ⟨o, e _ _ h⟩)
  · exact .inr h

theorem SqN.mono {K : PySem.W.Frag} {F F' : Hp} {a : Addr} {xs : List V} (e : Same F F') (h : SqN K F a xs) : SqN K F' a xs :=
  h.elim (fun ⟨o, h, d⟩ => .inl ⟨o, e _ _ h, d⟩) fun ⟨q, h⟩ => .inr ⟨q, sqT_mono e h⟩
section
variable {K : PySem.W.Frag} {F F' : Hp}
mutual
theorem RepF.mono (e : Same F F') {v : V} {d : D} : RepF K F v d → RepF K F' v d
  | .non => .non
  | .bl b => .bl b
  | .int i => .int i
  | .str x => .str x
  | .lst h hs => .lst (e _ _ h) (RepFs.mono e hs)
  | .tup h hs => .tup (h.mono e) (RepFs.mono e hs)
  | .dic h hs => .dic (e _ _ h) (RepKs.mono e hs)
  | .dit h hs => .dit (e _ _ h) (RepTs.mono e hs)
theorem RepFs.mono (e : Same F F') {vs : List V} {ds : List D} : RepFs K F vs ds → RepFs K F' vs ds
  | .nil => .nil
  | .cons h hs => .cons (RepF.mono e h) (RepFs.mono e hs)
theorem RepKs.mono (e : Same F F') {kvs : List (Key × V)} {kds : List (D × D)} : RepKs K F kvs kds → RepKs K F' kvs kds
  | .nil => .nil
  | .cons h hs => .cons (RepF.mono e h) (RepKs.mono e hs)
theorem RepTs.mono (e : Same F F') {kvs : List (NestedKey × Addr × V)} {kds : List (D × D)} : RepTs K F kvs kds → RepTs K F' kvs kds
  | .nil => .nil
  | .cons h k n g hs => .cons (RepF.mono e h) k n (RepF.mono e g) (RepTs.mono e hs)
end
mutual
theorem RepF.dp {v : V} : ∀ {d : D}, PyData.canLay0 d = true → RepF K F v d → Dp K F v d
  | _, _, .non => .non
  | _, _, .bl b => .bl b
  | _, _, .int i => .int i
  | _, _, .str x => .str x
  | _, c, .lst h hs => .lst (SqL.of h) (RepFs.dp c hs)
  | _, c, .tup h hs => .tup h.t (RepFs.dp c hs)
  | _, c, .dic h hs => by cases c
  | _, c, .dit h hs => by cases c
theorem RepFs.dp {vs : List V} : ∀ {ds : List D}, PyData.canLayAll0 ds = true → RepFs K F vs ds → DpAll K F vs ds
  | _, _, .nil => .nil
  | _, c, .cons h hs => by
    have c' := Bool.and_eq_true_iff.mp c
    exact .cons (RepF.dp c'.1 h) (RepFs.dp c'.2 hs)
end
theorem RepFs.length {vs : List V} {ds : List D} (h : RepFs K F vs ds) : vs.length = ds.length := by
  induction ds generalizing vs with
  | nil => cases h; rfl
  | cons d ds ih =>
    cases h with
    | cons _ hs => simp [ih hs]
theorem RepFs.get {vs : List V} {ds : List D} (h : RepFs K F vs ds) {i : Nat} {d : D} (e : ds[i]? = some d) : ∃ v, vs[i]? = some v ∧ RepF K F v d := by
  induction ds generalizing vs i with
  | nil => simp at e
  | cons d' ds ih =>
    cases h with
    | cons h hs =>
      cases i with
      | zero => simp at e; subst e; exact ⟨_, rfl, h⟩
      | succ i => simpa using ih hs (by simpa using e)
theorem RepFs.getV {vs : List V} {ds : List D} (h : RepFs K F vs ds) {i : Nat} {v : V} (e : vs[i]? = some v) : ∃ d, ds[i]? = some d ∧ RepF K F v d := by
  have hl := h.length
  have hi : i < ds.length := by have := (List.getElem?_eq_some_iff.mp e).1; omega
  obtain ⟨v', e', r⟩ := h.get (List.getElem?_eq_getElem hi)
  rw [e] at e'; cases e'
  exact ⟨_, List.getElem?_eq_getElem hi, r⟩
theorem RepFs.append {vs ws : List V} {ds es : List D} (h : RepFs K F vs ds) (g : RepFs K F ws es) : RepFs K F (vs ++ ws) (ds ++ es) := by
  induction ds generalizing vs with
  | nil => cases h; exact g
  | cons d ds ih =>
    cases h with
    | cons h hs => exact .cons h (ih hs)
theorem RepFs.set {vs : List V} {ds : List D} (h : RepFs K F vs ds) {v : V} {d : D} (r : RepF K F v d) (i : Nat) : RepFs K F (vs.set i v) (ds.set i d) := by
  induction ds generalizing vs i with
  | nil => cases h; exact .nil
  | cons d' ds ih =>
    cases h with
    | cons h hs =>
      cases i with
      | zero => exact .cons r hs
      | succ i => exact .cons h (ih hs i)
theorem RepFs.take {vs : List V} {ds : List D} (h : RepFs K F vs ds) (n : Nat) : RepFs K F (vs.take n) (ds.take n) := by
  induction ds generalizing vs n with
  | nil => cases h; simp; exact .nil
  | cons d' ds ih =>
    cases h with
    | cons h hs =>
      cases n with
      | zero => exact .nil
      | succ n => exact .cons h (ih hs n)
theorem RepFs.drop {vs : List V} {ds : List D} (h : RepFs K F vs ds) (n : Nat) : RepFs K F (vs.drop n) (ds.drop n) := by
  induction ds generalizing vs n with
  | nil => cases h; simp; exact .nil
  | cons d' ds ih =>
    cases h with
    | cons h hs =>
      cases n with
      | zero => exact .cons h hs
      | succ n => exact ih hs n
theorem RepFs.eraseIdx {vs : List V} {ds : List D} (h : RepFs K F vs ds) (n : Nat) : RepFs K F (vs.eraseIdx n) (ds.eraseIdx n) := by
  induction ds generalizing vs n with
  | nil => cases h; simp; exact .nil
  | cons d' ds ih =>
    cases h with
    | cons h hs =>
      cases n with
      | zero => exact hs
      | succ n => exact .cons h (ih hs n)
theorem RepFs.reverse {vs : List V} {ds : List D} (h : RepFs K F vs ds) : RepFs K F vs.reverse ds.reverse := by
  induction ds generalizing vs with
  | nil => cases h; exact .nil
  | cons d ds ih =>
    cases h with
    | cons h hs => simp only [List.reverse_cons]; exact (ih hs).append (.cons h .nil)
theorem RepFs.rep {vs : List V} {ds : List D} (h : RepFs K F vs ds) (n : Nat) : RepFs K F (List.replicate n vs).flatten (List.replicate n ds).flatten := by
  induction n with
  | zero => exact .nil
  | succ n ih => simp only [List.replicate_succ, List.flatten_cons]; exact h.append ih
theorem RepFs.ints : ∀ {ns : List Int}, RepFs K F (ns.map V.int) (ns.map PyData.int)
  | [] => .nil
  | n :: ns => .cons (.int n) RepFs.ints
theorem RepF.int_inv {v : V} {i : Int} (h : RepF K F v (.int i)) : v = .int i := by cases h; rfl
theorem RepF.str_inv {v : V} {i : Str} (h : RepF K F v (.str i)) : v = .str i := by cases h; rfl
theorem RepF.bl_inv {v : V} {i : Bool} (h : RepF K F v (.bool i)) : v = .bl i := by cases h; rfl
theorem RepF.non_inv {v : V} (h : RepF K F v .none) : v = .non := by cases h; rfl
theorem RepF.tup_inv {v : V} {ds : List D} (h : RepF K F v (.tuple ds)) : ∃ a vs, v = .ref a ∧ SqT K F a vs ∧ RepFs K F vs ds := by cases h with | tup h hs => exact ⟨_, _, rfl, h.t, hs⟩
theorem RepF.tup_invN {v : V} {ds : List D} (h : RepF K F v (.tuple ds)) : ∃ a vs, v = .ref a ∧ SqN K F a vs ∧ RepFs K F vs ds := by cases h with | tup h hs => exact ⟨_, _, rfl, h, hs⟩
theorem RepF.lst_inv {v : V} {ds : List D} (h : RepF K F v (.list ds)) : ∃ a vs, v = .ref a ∧ F a = some (.lst vs) ∧ RepFs K F vs ds := by cases h with | lst h hs => exact ⟨_, _, rfl, h, hs⟩
theorem RepFs.ints_inv : ∀ {ns : List Int} {vs : List V}, RepFs K F vs (ns.map PyData.int) → vs = ns.map V.int
  | [], _, h => by cases h; rfl
  | n :: ns, _, h => by
    cases h with
    | cons h hs => rw [h.int_inv, RepFs.ints_inv hs]; rfl
theorem RepFs.strs_inv : ∀ {ns : List Str} {vs : List V}, RepFs K F vs (ns.map PyData.str) → vs = ns.map V.str
  | [], _, h => by cases h; rfl
  | n :: ns, _, h => by
    cases h with
    | cons h hs => rw [h.str_inv, RepFs.strs_inv hs]; rfl
theorem RepFs.bls_inv : ∀ {ns : List Bool} {vs : List V}, RepFs K F vs (ns.map PyData.bool) → vs = ns.map V.bl
  | [], _, h => by cases h; rfl
  | n :: ns, _, h => by
    cases h with
    | cons h hs => rw [h.bl_inv, RepFs.bls_inv hs]; rfl
end

/-! ### what a body holds: data that stands still, or a thing of its own -/
inductive Rv where
  /-- data that stands still -/
  | fro (d : D)
  /-- a list of its own, of data that stands still -/
  | lst (ds : List D)
  /-- a dict of its own: keys ints and texts; tuples of such -/
  | dct (kds : List (D × D)) | dtt (kds : List (D × D))
  /-- [[cells], seed]: a law's state -/
  | st (cells : List Int) (seed : Int)
  /-- the script -/
  | scr (ns : List Int)


/-- ρ is what v is worth; A: the addresses that it owns -/
def RepR (K : PySem.W.Frag) (F H : Hp) (v : V) (ρ : Rv) (A : List Addr) : Prop := match ρ with
  | .fro d => RepF K F v d ∧ A = []
  | .lst ds => ∃ a vs, v = .ref a ∧ H a = some (.lst vs) ∧ RepFs K F vs ds ∧ A = [a]
  | .dct kds => ∃ a kvs, v = .ref a ∧ H a = some (.dK kvs) ∧ RepKs K F kvs kds ∧ A = [a]
  | .dtt kds => ∃ a kvs, v = .ref a ∧ H a = some (DkO a kvs) ∧ RepTs K F kvs kds ∧ A = [a]
  | .st cs sd => ∃ a b, v = .ref a ∧ H a = some (.lst [.ref b, .int sd]) ∧ H b = some (.lst (cs.map V.int)) ∧ a ≠ b ∧ A = [a, b]
  | .scr ns => ∃ a, v = .ref a ∧ SqL K F a (ns.map V.int) ∧ A = []
theorem RepR.mono {K : PySem.W.Frag} {F F' H H' : Hp} {v : V} {ρ : Rv} {A : List Addr} (r : RepR K F H v ρ A) (e : Same F F') (h : ∀ a ∈ A, H' a = H a) : RepR K F' H' v ρ A := by
  cases ρ with
  | fro d => exact ⟨r.1.mono e, r.2⟩
  | lst ds => obtain ⟨a, vs, rfl, q, z, rfl⟩ := r; exact ⟨a, vs, rfl, (h a (by simp)).trans q, z.mono e, rfl⟩
  | dct ds => obtain ⟨a, vs, rfl, q, z, rfl⟩ := r; exact ⟨a, vs, rfl, (h a (by simp)).trans q, z.mono e, rfl⟩
  | dtt ds => obtain ⟨a, vs, rfl, q, z, rfl⟩ := r; exact ⟨a, vs, rfl, (h a (by simp)).trans q, z.mono e, rfl⟩
  | st cs sd => obtain ⟨a, b, rfl, q1, q2, ne, rfl⟩ := r; exact ⟨a, b, rfl, (h a (by simp)).trans q1, (h b (by simp)).trans q2, ne, rfl⟩
  | scr ns => obtain ⟨a, rfl, q, rfl⟩ := r; exact ⟨a, rfl, e.seq q, rfl⟩
theorem RepR.there {K : PySem.W.Frag} {F H : Hp} {v : V} {ρ : Rv} {A : List Addr} (r : RepR K F H v ρ A) : ∀ a ∈ A, ∃ o, H a = some o := by
  cases ρ with
  | fro d => intro a ha; rw [r.2] at ha; cases ha
  | lst ds => obtain ⟨a, vs, rfl, q, z, rfl⟩ := r; intro b hb; rw [List.mem_singleton.mp hb]; exact ⟨_, q⟩
  | dct ds => obtain ⟨a, vs, rfl, q, z, rfl⟩ := r; intro b hb; rw [List.mem_singleton.mp hb]; exact ⟨_, q⟩
  | dtt ds => obtain ⟨a, vs, rfl, q, z, rfl⟩ := r; intro b hb; rw [List.mem_singleton.mp hb]; exact ⟨_, q⟩
  | st cs sd =>
    obtain ⟨a, b, rfl, q1, q2, ne, rfl⟩ := r
    intro c hc
    rcases List.mem_cons.mp hc with rfl | hc
    · exact ⟨_, q1⟩
    · rw [List.mem_singleton.mp hc]; exact ⟨_, q2⟩
  | scr ns => obtain ⟨a, rfl, q, rfl⟩ := r; intro a ha; cases ha

/-- what is owned is no table -/
theorem RepR.notab {K : PySem.W.Frag} {F H : Hp} {v : V} {ρ : Rv} {A : List Addr} (r : RepR K F H v ρ A) {a : Addr} (ha : a ∈ A) (ps : Array Value) : H a ≠ some (.tbl ps) := by
  cases ρ with
  | fro d => rw [r.2] at ha; cases ha
  | lst ds => obtain ⟨b, vs, rfl, q, z, rfl⟩ := r; rw [List.mem_singleton.mp ha, q]; intro h; cases h
  | dct ds => obtain ⟨b, vs, rfl, q, z, rfl⟩ := r; rw [List.mem_singleton.mp ha, q]; intro h; cases h
  | dtt ds => obtain ⟨b, vs, rfl, q, z, rfl⟩ := r; rw [List.mem_singleton.mp ha, q]; intro h; cases h
  | st cs sd =>
    obtain ⟨b, c, rfl, q1, q2, ne, rfl⟩ := r
    rcases List.mem_cons.mp ha with rfl | ha
    · rw [q1]; intro h; cases h
    · rw [List.mem_singleton.mp ha, q2]; intro h; cases h
  | scr ns => obtain ⟨b, rfl, q, rfl⟩ := r; cases ha
/-- the values of the slots -/
abbrev Ge := List (Option Rv)
/-- what a body begins with: what stands still, the heap, the values of the arguments, their own addresses, which of them are its own -/
structure Bs where
  F0 : Hp
  H0 : Hp
  vs : List V
  As : List (List Addr)
  M : Addr → Prop

/-- l: the arguments that are a body's own; T: the tables of code objects, which may grow -/
structure Ow where
  l : List Nat
  T : Addr → Prop
/-- where a body stands. w: who owns an address: 0 a value in hand, i + 1 the slot i -/
structure Sim (K : PySem.W.Frag) (ow : Ow) (B : Bs) (Γ : Ge) (F : Hp) (w : Addr → Nat) (σ : L2.St) (H : Hp) : Prop where
  sub : Same F H
  ff : Same B.F0 F
  new : ∀ b o, F b = some o → B.F0 b = some o ∨ B.H0 b = none
  keep : ∀ b o, B.H0 b = some o → ¬ B.M b → H b = some o
  len : Γ.length = σ.length
  slot : ∀ (i : Nat) (ρ : Rv), Γ[i]? = some (some ρ) → ∃ v A, σ[i]? = some (some v) ∧ RepR K F H v ρ A ∧ ∀ a ∈ A, w a = i + 1 ∧ F a = none ∧ (B.M a ∨ B.H0 a = none)
  own : ∀ i ∈ ow.l, ∃ ρ v A, Γ[i]? = some (some ρ) ∧ B.vs[i]? = some v ∧ B.As[i]? = some A ∧ σ[i]? = some (some v) ∧ RepR K F H v ρ A ∧ ∀ a ∈ A, w a = i + 1 ∧ F a = none
  al : ∀ a, B.M a → ∃ o, H a = some o
  tab : ∀ a, ow.T a → F a = none ∧ B.H0 a ≠ none ∧ B.M a ∧ GxR.TabG H a
/-- a value in hand owns what no one else knows -/
def Tmp (B : Bs) (w : Addr → Nat) (F : Hp) (A : List Addr) : Prop := ∀ a ∈ A, w a = 0 ∧ F a = none ∧ B.H0 a = none
theorem Tmp.nil {B : Bs} {w : Addr → Nat} {F : Hp} : Tmp B w F [] := fun _ h => by cases h

/-- an expression's reading over plain data -/
abbrev DT := Ge → (Rv → Ge → Prop) → Prop
def tD (K : PySem.W.Frag) (ow : Ow) (B : Bs) (t : DT) : TE := fun σ H Q => ∃ Γ F w, Sim K ow B Γ F w σ H ∧ ∃ k : Rv → Ge → Prop, t Γ k ∧
  ∀ ρ Γ' F' w' H' v A, k ρ Γ' → Same F F' → Sim K ow B Γ' F' w' σ H' → RepR K F' H' v ρ A → Tmp B w' F' A → Q v H'
abbrev DE (X : Cx) (ow : Ow) (B : Bs) (e : Expr) (t : DT) : Prop := PE X e (tD X.K ow B t)
theorem _root_.L2.PE.conv {X : Cx} {e : Expr} {t t' : TE} (h : PE X e t) (c : ∀ σ H Q, t' σ H Q → t σ H Q) : PE X e t' := ⟨fun pins s σ H Q I q => h.run pins s σ H Q I (c σ H Q q)⟩
theorem _root_.L2.PT.conv {X : Cx} {e : Expr} {t t' : TT} (h : PT X e t) (c : ∀ σ H Q, t' σ H Q → t σ H Q) : PT X e t' := ⟨fun pins s σ H Q I q => h.run pins s σ H Q I (c σ H Q q)⟩
theorem _root_.L2.PA.conv {X : Cx} {e : List Expr} {t t' : TA} (h : PA X e t) (c : ∀ σ H Q, t' σ H Q → t σ H Q) : PA X e t' := ⟨fun ps pins s σ H Q I q => h.run ps pins s σ H Q I (c σ H Q q)⟩
theorem _root_.L2.PS.conv {X : Cx} {e : Stmt} {t t' : TS} (h : PS X e t) (c : ∀ D σ H, t' D σ H → t D σ H) : PS X e t' := ⟨fun pins s σ H Q I q => h.run pins s σ H Q I (c Q σ H q)⟩
theorem _root_.L2.PSs.conv {X : Cx} {e : List Stmt} {t t' : TS} (h : PSs X e t) (c : ∀ D σ H, t' D σ H → t D σ H) : PSs X e t' := ⟨fun pins s σ H Q I q => h.run pins s σ H Q I (c Q σ H q)⟩

section
variable {K : PySem.W.Frag} {ow : Ow} {B : Bs} {Γ Γ' : Ge} {F F' : Hp} {w w' : Addr → Nat} {σ : L2.St} {H H' : Hp} {v : V} {ρ : Rv} {A : List Addr}

/-- a value that stands still -/
def Aft (K : PySem.W.Frag) (ow : Ow) (B : Bs) (Γ : Ge) (F : Hp) (σ : L2.St) (k : Rv → Prop) (Q : VK) : Prop :=
  ∀ ρ F' w' H' v A, k ρ → Same F F' → Sim K ow B Γ F' w' σ H' → RepR K F' H' v ρ A → Tmp B w' F' A → Q v H'
theorem Aft.val {k : Rv → Prop} {Q : VK} (a : Aft K ow B Γ F σ k Q) (S : Sim K ow B Γ F w σ H) {d : D} (r : RepF K F v d) (h : k (.fro d)) : Q v H :=
  a (.fro d) F w H v [] h (Same.refl F) S ⟨r, rfl⟩ Tmp.nil

/-- H' has all of H, and new things -/
theorem Sim.grow (S : Sim K ow B Γ F w σ H) (e : Same H H') (hw : ∀ a, H a ≠ none → w' a = w a) : Sim K ow B Γ F w' σ H' := by
  have at_ : ∀ {v : V} {ρ : Rv} {A : List Addr}, RepR K F H v ρ A → RepR K F H' v ρ A := fun {v ρ A} r => r.mono (Same.refl F) fun a ha => by
    obtain ⟨o, q⟩ := r.there a ha
    rw [q]; exact e _ _ q
  refine ⟨S.sub.trans e, S.ff, S.new, fun b o h1 h2 => e _ _ (S.keep b o h1 h2), S.len, fun i ρ h => ?_, fun i hi => ?_, fun a ha => ?_, fun a ha => ?_⟩
  · obtain ⟨v, A, h1, r, h2⟩ := S.slot i ρ h
    refine ⟨v, A, h1, at_ r, fun a ha => ?_⟩
    obtain ⟨o, q⟩ := r.there a ha
    rw [hw a (by rw [q]; simp)]
    exact h2 a ha
  · obtain ⟨ρ, v, A, h1, h2, h3, h4, r, h5⟩ := S.own i hi
    refine ⟨ρ, v, A, h1, h2, h3, h4, at_ r, fun a ha => ?_⟩
    obtain ⟨o, q⟩ := r.there a ha
    rw [hw a (by rw [q]; simp)]
    exact h5 a ha
  · obtain ⟨o, q⟩ := S.al a ha
    exact ⟨o, e _ _ q⟩
  · obtain ⟨t1, t2, t3, ps, t4, t5⟩ := S.tab a ha
    exact ⟨t1, t2, t3, ps, e _ _ t4, t5⟩
theorem Sim.fresh (S : Sim K ow B Γ F w σ H) {p : Addr} (hp : H p = none) : F p = none ∧ B.H0 p = none := by
  constructor
  · cases q : F p with
    | none => rfl
    | some o => rw [S.sub _ _ q] at hp; cases hp
  · cases q : B.H0 p with
    | none => rfl
    | some o =>
      by_cases hm : B.M p
      · obtain ⟨u, e⟩ := S.al p hm
        rw [e] at hp; cases hp
      · rw [S.keep p o q hm] at hp; cases hp
/-- F grows by something that stands and is owned by none -/
theorem Sim.freeze (S : Sim K ow B Γ F w σ H) (e : Same F F') (s : Same F' H) (hn : ∀ b o, F' b = some o → F b = some o ∨ (w b = 0 ∧ B.H0 b = none)) : Sim K ow B Γ F' w σ H := by
  refine ⟨s, S.ff.trans e, fun b o h => ?_, S.keep, S.len, fun i ρ h => ?_, fun i hi => ?_, S.al, fun a ha => ?_⟩
  · rcases hn b o h with h | h
    · exact S.new b o h
    · exact .inr h.2
  · obtain ⟨v, A, h1, r, h2⟩ := S.slot i ρ h
    refine ⟨v, A, h1, r.mono e fun _ _ => rfl, fun a ha => ⟨(h2 a ha).1, ?_, (h2 a ha).2.2⟩⟩
    cases q : F' a with
    | none => rfl
    | some o =>
      rcases hn a o q with z | z
      · rw [(h2 a ha).2.1] at z; cases z
      · rw [(h2 a ha).1] at z; omega
  · obtain ⟨ρ, v, A, h1, h2, h3, h4, r, h5⟩ := S.own i hi
    refine ⟨ρ, v, A, h1, h2, h3, h4, r.mono e fun _ _ => rfl, fun a ha => ⟨(h5 a ha).1, ?_⟩⟩
    cases q : F' a with
    | none => rfl
    | some o =>
      rcases hn a o q with z | z
      · rw [(h5 a ha).2] at z; cases z
      · rw [(h5 a ha).1] at z; omega
  · obtain ⟨t1, t2, t3, t4⟩ := S.tab a ha
    refine ⟨?_, t2, t3, t4⟩
    cases q : F' a with
    | none => rfl
    | some o =>
      rcases hn a o q with z | z
      · rw [t1] at z; cases z
      · exact (t2 z.2).elim
theorem same_upd {H : Hp} {p : Addr} {o : HO} (hp : H p = none) : Same H (upd H p o) := fun b u e => by rw [upd_ne (ne_of_none e hp)]; exact e
/-- the owner of p alone is changed -/
def wset (w : Addr → Nat) (p : Addr) (n : Nat) : Addr → Nat := fun b => if b = p then n else w b
theorem wset_same {w : Addr → Nat} {p : Addr} {n : Nat} : wset w p n p = n := if_pos rfl
theorem wset_ne {w : Addr → Nat} {p b : Addr} {n : Nat} (h : b ≠ p) : wset w p n b = w b := if_neg h
/-- a new list in hand -/
theorem Aft.newL {k : Rv → Prop} {Q : VK} (a : Aft K ow B Γ F σ k Q) (S : Sim K ow B Γ F w σ H) {ds : List D} {vs : List V} (r : RepFs K F vs ds) (h : k (.lst ds)) {p : Addr} (hp : H p = none) : Q (.ref p) (upd H p (.lst vs)) := by
  obtain ⟨f, z⟩ := S.fresh hp
  refine a (.lst ds) F (wset w p 0) _ (.ref p) [p] h (Same.refl F) (S.grow (same_upd hp) fun b hb => wset_ne fun e => hb (by rw [e]; exact hp)) ⟨p, vs, rfl, upd_same, r, rfl⟩ fun b hb => ?_
  rw [List.mem_singleton.mp hb]
  exact ⟨wset_same, f, z⟩
/-- a new tuple: it stands still at once -/
theorem Aft.newT {k : Rv → Prop} {Q : VK} (a : Aft K ow B Γ F σ k Q) (S : Sim K ow B Γ F w σ H) {ds : List D} {vs : List V} (r : RepFs K F vs ds) (h : k (.fro (.tuple ds))) {p : Addr} (hp : H p = none) {ob : Obj} (ho : ob.dict = none) : Q (.ref p) (upd H p (.frz ob (.tup vs))) := by
  obtain ⟨f, z⟩ := S.fresh hp
  have S1 : Sim K ow B Γ F (wset w p 0) σ (upd H p (.frz ob (.tup vs))) := S.grow (same_upd hp) fun b hb => wset_ne fun e => hb (by rw [e]; exact hp)
  have e1 : Same F (upd F p (.frz ob (.tup vs))) := same_upd f
  have S2 : Sim K ow B Γ (upd F p (.frz ob (.tup vs))) (wset w p 0) σ (upd H p (.frz ob (.tup vs))) := S1.freeze e1 (fun b o h => by
    by_cases e : b = p
    · subst e; rw [upd_same] at h ⊢; exact h
    · rw [upd_ne e] at h ⊢; exact S.sub _ _ h) fun b o h => by
    by_cases e : b = p
    · subst e; exact .inr ⟨wset_same, z⟩
    · rw [upd_ne e] at h; exact .inl h
  exact a (.fro (.tuple ds)) _ _ _ (.ref p) [] h e1 S2 ⟨.tup (.inl ⟨ob, upd_same, ho⟩) (r.mono e1), rfl⟩ Tmp.nil

/-! ### a value in hand made to stand still -/
def Rv.frz : Rv → (D → Prop) → Prop
  | .fro d, k => k d
  | .lst ds, k => k (.list ds)
  | .st cs sd, k => k (.list [.list (cs.map .int), .int sd])
  | _, _ => False
theorem Sim.frz (S : Sim K ow B Γ F w σ H) (r : RepR K F H v ρ A) (t : Tmp B w F A) {k : D → Prop} (h : ρ.frz k) : ∃ d F', k d ∧ Same F F' ∧ Sim K ow B Γ F' w σ H ∧ RepF K F' v d := by
  have one : ∀ {F : Hp} {a : Addr} {o : HO}, Sim K ow B Γ F w σ H → H a = some o → w a = 0 ∧ F a = none ∧ B.H0 a = none → Same F (upd F a o) ∧ Sim K ow B Γ (upd F a o) w σ H := fun {F a o} S q z => by
    have e1 : Same F (upd F a o) := same_upd z.2.1
    refine ⟨e1, S.freeze e1 (fun b u h => ?_) fun b u h => ?_⟩
    · by_cases e : b = a
      · subst e; rw [upd_same] at h; cases h; exact q
      · rw [upd_ne e] at h; exact S.sub _ _ h
    · by_cases e : b = a
      · subst e; exact .inr ⟨z.1, z.2.2⟩
      · rw [upd_ne e] at h; exact .inl h
  cases ρ with
  | fro d => exact ⟨d, F, h, Same.refl F, S, r.1⟩
  | lst ds =>
    obtain ⟨a, vs, rfl, q, z, rfl⟩ := r
    obtain ⟨e1, S1⟩ := one S q (t a (by simp))
    exact ⟨_, _, h, e1, S1, .lst upd_same (z.mono e1)⟩
  | st cs sd =>
    obtain ⟨a, b, rfl, q1, q2, ne, rfl⟩ := r
    obtain ⟨e1, S1⟩ := one S q2 (t b (by simp))
    have ta := t a (by simp)
    obtain ⟨e2, S2⟩ := one S1 q1 ⟨ta.1, by rw [upd_ne ne]; exact ta.2.1, ta.2.2⟩
    refine ⟨_, _, h, e1.trans e2, S2, .lst upd_same (.cons (.lst (vs := cs.map V.int) ?_ RepFs.ints) (.cons (.int sd) .nil))⟩
    rw [upd_ne (Ne.symm ne)]
    exact upd_same
  | dct ds => exact h.elim
  | dtt ds => exact h.elim
  | scr ns => exact h.elim
end
end Dn
set_option Elab.async false
set_option linter.all false
set_option maxRecDepth 100000
set_option maxHeartbeats 2000000
/-! # Dn: expressions over plain data -/
namespace Dn
open PySem PySem.Spec PyProof.Rows L2

/-! ### what is looked at, not taken -/
def RepB (K : PySem.W.Frag) (F H : Hp) (v : V) (d : D) : Prop := RepF K F v d ∨ ∃ a vs ds, v = .ref a ∧ d = .list ds ∧ H a = some (.lst vs) ∧ RepFs K F vs ds
def Rv.bor : Rv → (D → Prop) → Prop
  | .fro d, k => k d
  | .lst ds, k => k (.list ds)
  | _, _ => False
abbrev DB := Ge → (D → Ge → Prop) → Prop
def tB (K : PySem.W.Frag) (ow : Ow) (B : Bs) (t : DB) : TE := fun σ H Q => ∃ Γ F w, Sim K ow B Γ F w σ H ∧ ∃ k : D → Ge → Prop, t Γ k ∧
  ∀ d Γ' F' w' H' v, k d Γ' → Same F F' → Sim K ow B Γ' F' w' σ H' → RepB K F' H' v d → Q v H'
abbrev BE (X : Cx) (ow : Ow) (B : Bs) (e : Expr) (t : DB) : Prop := PE X e (tB X.K ow B t)
/-- a test -/
abbrev DTT := Ge → (Bool → Ge → Prop) → Prop
def tT (K : PySem.W.Frag) (ow : Ow) (B : Bs) (t : DTT) : TT := fun σ H Q => ∃ Γ F w, Sim K ow B Γ F w σ H ∧ ∃ k : Bool → Ge → Prop, t Γ k ∧
  ∀ b Γ' F' w' H', k b Γ' → Same F F' → Sim K ow B Γ' F' w' σ H' → Q b H'
abbrev TTe (X : Cx) (ow : Ow) (B : Bs) (e : Expr) (t : DTT) : Prop := PT X e (tT X.K ow B t)

section
variable {K : PySem.W.Frag} {ow : Ow} {B : Bs} {Γ Γ' : Ge} {F F' : Hp} {w w' : Addr → Nat} {σ : L2.St} {H H' : Hp} {v : V} {ρ : Rv} {A : List Addr} {d : D}
theorem RepB.lst_inv {ds : List D} (h : RepB K F H v (.list ds)) (s : Same F H) : ∃ a vs, v = .ref a ∧ H a = some (.lst vs) ∧ RepFs K F vs ds := by
  rcases h with h | ⟨a, vs, ds', rfl, e, h1, h2⟩
  · obtain ⟨a, vs, rfl, h1, h2⟩ := h.lst_inv
    exact ⟨a, vs, rfl, s _ _ h1, h2⟩
  · cases e; exact ⟨a, vs, rfl, h1, h2⟩
theorem RepB.fro (h : RepF K F v d) : RepB K F H v d := .inl h
theorem RepB.tup_inv {ds : List D} (h : RepB K F H v (.tuple ds)) : ∃ a vs, v = .ref a ∧ SqT K F a vs ∧ RepFs K F vs ds := by
  rcases h with h | ⟨a, vs, ds', rfl, e, h1, h2⟩
  · exact h.tup_inv
  · cases e
theorem RepB.tup_invN {ds : List D} (h : RepB K F H v (.tuple ds)) : ∃ a vs, v = .ref a ∧ SqN K F a vs ∧ RepFs K F vs ds := by
  rcases h with h | ⟨a, vs, ds', rfl, e, h1, h2⟩
  · exact h.tup_invN
  · cases e
theorem RepB.int_inv {i : Int} (h : RepB K F H v (.int i)) : v = .int i := by
  rcases h with h | ⟨a, vs, ds', rfl, e, h1, h2⟩
  · exact h.int_inv
  · cases e
theorem RepB.str_inv {i : Str} (h : RepB K F H v (.str i)) : v = .str i := by
  rcases h with h | ⟨a, vs, ds', rfl, e, h1, h2⟩
  · exact h.str_inv
  · cases e
theorem RepB.bl_inv {i : Bool} (h : RepB K F H v (.bool i)) : v = .bl i := by
  rcases h with h | ⟨a, vs, ds', rfl, e, h1, h2⟩
  · exact h.bl_inv
  · cases e
theorem RepB.non_inv (h : RepB K F H v .none) : v = .non := by
  rcases h with h | ⟨a, vs, ds', rfl, e, h1, h2⟩
  · exact h.non_inv
  · cases e
theorem RepB.dp (h : RepB K F H v d) (s : Same F H) (c : SeqAt.shaped d = true) : Dp K H v d := by
  have c := SeqAt.canLay_of_shaped c
  rcases h with h | ⟨a, vs, ds', rfl, rfl, h1, h2⟩
  · exact (h.mono s).dp c
  · exact .lst (SqL.of h1) ((h2.mono s).dp c)
theorem RepR.bor {k : D → Prop} (r : RepR K F H v ρ A) (h : ρ.bor k) : ∃ d, k d ∧ RepB K F H v d := by
  cases ρ with
  | fro d => exact ⟨d, h, .inl r.1⟩
  | lst ds => obtain ⟨a, vs, rfl, q, z, rfl⟩ := r; exact ⟨_, h, .inr ⟨a, vs, ds, rfl, rfl, q, z⟩⟩
  | st cs sd => exact h.elim
  | dct ds => exact h.elim
  | dtt ds => exact h.elim
  | scr ns => exact h.elim
end

section
variable {X : Cx} {ow : Ow} {B : Bs}
/-! ### names, constants -/
/-- a name whose value stands still -/
def dVar (i : Nat) : DT := fun Γ k => match Γ[i]? with
  | some (some (.fro d)) => k (.fro d) Γ
  | _ => False
/-- .. is looked at -/
def dBor (i : Nat) : DB := fun Γ k => match Γ[i]? with
  | some (some ρ) => ρ.bor fun d => k d Γ
  | _ => False
/-- .. is made to stand still -/
def dFrz (i : Nat) : DT := fun Γ k => match Γ[i]? with
  | some (some ρ) => ρ.frz fun d => k (.fro d) (Γ.set i (some (.fro d)))
  | _ => False
/-- .. is handed over: the name is not asked again -/
def dMov (i : Nat) : DT := fun Γ k => match Γ[i]? with
  | some (some ρ) => k ρ (Γ.set i none)
  | _ => False
def dC (d : D) : DT := fun Γ k => k (.fro d) Γ
def dB (t : DT) : DB := fun Γ k => t Γ fun ρ Γ' => ρ.bor fun d => k d Γ'
theorem _root_.L2.PE.toB {e : Expr} {t : DT} (h : DE X ow B e t) : BE X ow B e (dB t) := h.conv fun σ H Q ⟨Γ, F, w, S, k, q, hk⟩ =>
  ⟨Γ, F, w, S, _, q, fun ρ Γ' F' w' H' v A h1 e1 S1 r1 _ => by
    obtain ⟨d, h2, r2⟩ := r1.bor h1
    exact hk d Γ' F' w' H' v h2 e1 S1 r2⟩
theorem _root_.L2.PE.ofVar {e : Expr} {i : Nat} (h : PE X e (tVar i)) : DE X ow B e (dVar i) := h.conv fun σ H Q ⟨Γ, F, w, S, k, q, hk⟩ => by
  unfold dVar at q
  split at q
  · rename_i d e1
    obtain ⟨v, A, h1, r, _⟩ := S.slot i _ e1
    exact ⟨v, h1, hk _ _ _ _ _ _ _ q (Same.refl F) S r (by rw [r.2]; exact Tmp.nil)⟩
  · exact q.elim
theorem _root_.L2.PE.borVar {e : Expr} {i : Nat} (h : PE X e (tVar i)) : BE X ow B e (dBor i) := h.conv fun σ H Q ⟨Γ, F, w, S, k, q, hk⟩ => by
  unfold dBor at q
  split at q
  · rename_i ρ e1
    obtain ⟨v, A, h1, r, _⟩ := S.slot i _ e1
    obtain ⟨d, h2, r2⟩ := r.bor q
    exact ⟨v, h1, hk _ _ _ _ _ _ h2 (Same.refl F) S r2⟩
  · exact q.elim
theorem getElem?_len {α : Type} {l : List α} {i : Nat} {x : α} (h : l[i]? = some x) : i < l.length := (List.getElem?_eq_some_iff.mp h).1
/-- the slot i is handed over to the hand -/
theorem Sim.mov {K : PySem.W.Frag} {Γ : Ge} {F : Hp} {w : Addr → Nat} {σ : L2.St} {H : Hp} {ρ : Rv} {i : Nat} (S : Sim K ow B Γ F w σ H) (e1 : Γ[i]? = some (some ρ)) (hi : ow.l.contains i = false) :
    ∃ v A w', σ[i]? = some (some v) ∧ RepR K F H v ρ A ∧ Sim K ow B (Γ.set i none) F w' σ H ∧ (∀ a ∈ A, w a = i + 1 ∧ w' a = 0 ∧ F a = none ∧ (B.M a ∨ B.H0 a = none)) := by
  obtain ⟨v, A, h1, r, h2⟩ := S.slot i _ e1
  refine ⟨v, A, fun b => if b ∈ A then 0 else w b, h1, r, ⟨S.sub, S.ff, S.new, S.keep, by rw [List.length_set]; exact S.len, fun j ρ' h => ?_, fun j hj => ?_, S.al, S.tab⟩, fun a ha => ⟨(h2 a ha).1, if_pos ha, (h2 a ha).2.1, (h2 a ha).2.2⟩⟩
  · have hj : i ≠ j := by
      rintro rfl
      rw [List.getElem?_set_self (getElem?_len e1)] at h; cases h
    rw [List.getElem?_set_ne hj] at h
    obtain ⟨v', A', z1, z2, z3⟩ := S.slot j _ h
    refine ⟨v', A', z1, z2, fun a ha => ?_⟩
    have : a ∉ A := fun ha' => by
      have q1 := (h2 a ha').1
      have q2 := (z3 a ha).1
      omega
    rw [if_neg this]
    exact z3 a ha
  · have hne : i ≠ j := by
      rintro rfl
      rw [List.contains_iff_mem.mpr hj] at hi
      cases hi
    obtain ⟨ρ', v', A', z1, z2, z3, z4, z5, z6⟩ := S.own j hj
    refine ⟨ρ', v', A', by rw [List.getElem?_set_ne hne]; exact z1, z2, z3, z4, z5, fun a ha => ?_⟩
    have : a ∉ A := fun ha' => by
      have q1 := (h2 a ha').1
      have q2 := (z6 a ha).1
      omega
    rw [if_neg this]
    exact z6 a ha
end

/-! ### operators by values -/
/-- a result over plain data of two looked-at values -/
def OpD (K : PySem.W.Frag) (r : R2) (rd : D → D → (Rv → Prop) → Prop) : Prop := ∀ {ow : Ow} {B : Bs} {Γ : Ge} {F : Hp} {w : Addr → Nat} {σ : L2.St} {H : Hp} {x y : V} {d e : D} {k : Rv → Prop} {Q : VK},
  Sim K ow B Γ F w σ H → RepB K F H x d → RepB K F H y e → rd d e k → Aft K ow B Γ F σ k Q → r x y H Q
def UnD (K : PySem.W.Frag) (r : V → Hp → VK → Prop) (rd : D → (Rv → Prop) → Prop) : Prop := ∀ {ow : Ow} {B : Bs} {Γ : Ge} {F : Hp} {w : Addr → Nat} {σ : L2.St} {H : Hp} {x : V} {d : D} {k : Rv → Prop} {Q : VK},
  Sim K ow B Γ F w σ H → RepB K F H x d → rd d k → Aft K ow B Γ F σ k Q → r x H Q
def dOp (rd : D → D → (Rv → Prop) → Prop) (ta : DT) (tb : DB) : DT := fun Γ k => ta Γ fun x Γ1 => x.frz fun d => tb Γ1 fun e Γ2 => rd d e fun ρ => k ρ Γ2
def dUn (rd : D → (Rv → Prop) → Prop) (ta : DB) : DT := fun Γ k => ta Γ fun d Γ1 => rd d fun ρ => k ρ Γ1
theorem op_conv {K : PySem.W.Frag} {ow : Ow} {B : Bs} {r : R2} {rd : D → D → (Rv → Prop) → Prop} (hd : OpD K r rd) {ta : DT} {tb : DB} {σ : L2.St} {H : Hp} {Q : VK} (h : tD K ow B (dOp rd ta tb) σ H Q) : tOp r (tD K ow B ta) (tB K ow B tb) σ H Q := by
  obtain ⟨Γ, F, w, S, k, q, hk⟩ := h
  refine ⟨Γ, F, w, S, _, q, fun x Γ1 F1 w1 H1 v A h1 e1 S1 r1 t1 => ?_⟩
  obtain ⟨d, F1', h1', e1', S1', r1'⟩ := S1.frz r1 t1 h1
  refine ⟨Γ1, F1', w1, S1', _, h1', fun e Γ2 F2 w2 H2 v2 h2 e2 S2 r2 => ?_⟩
  exact hd S2 (.fro (r1'.mono e2)) r2 h2 fun ρ F' w' H' v3 A3 k3 e3 S3 r3 t3 => hk ρ _ _ _ _ _ _ k3 (((e1.trans e1').trans e2).trans e3) S3 r3 t3
theorem un_conv {K : PySem.W.Frag} {ow : Ow} {B : Bs} {r : V → Hp → VK → Prop} {rd : D → (Rv → Prop) → Prop} (hd : UnD K r rd) {ta : DB} {σ : L2.St} {H : Hp} {Q : VK} (h : tD K ow B (dUn rd ta) σ H Q) : tUn r (tB K ow B ta) σ H Q := by
  obtain ⟨Γ, F, w, S, k, q, hk⟩ := h
  refine ⟨Γ, F, w, S, _, q, fun d Γ1 F1 w1 H1 v h1 e1 S1 r1 => ?_⟩
  exact hd S1 r1 h1 fun ρ F' w' H' v3 A3 k3 e3 S3 r3 t3 => hk ρ _ _ _ _ _ _ k3 (e1.trans e3) S3 r3 t3

section
variable {X : Cx} {ow : Ow} {B : Bs} {a b c : Expr} {pos : Pos} {ta : DT} {tb : DB}
theorem de_op {op : Operator} {r : R2} {rd : D → D → (Rv → Prop) → Prop} (ho : OpR X (binaryOp op) r) (hd : OpD X.K r rd) (ha : DE X ow B a ta) (hb : BE X ow B b tb) : DE X ow B (.BinOp a op b pos) (dOp rd ta tb) :=
  (pe_op ho ha hb).conv fun _ _ _ h => op_conv hd h
theorem de_un {op : UnaryOp} {r : V → Hp → VK → Prop} {rd : D → (Rv → Prop) → Prop} (ho : UnR X (unaryOp op) r) (hd : UnD X.K r rd) (ha : BE X ow B a tb) : DE X ow B (.UnaryOp op a pos) (dUn rd tb) :=
  (pe_un ho ha).conv fun _ _ _ h => un_conv hd h
theorem de_cmp {op : CmpOp} {r : R2} {rd : D → D → (Rv → Prop) → Prop} (ho : OpR X (compareOp op) r) (hd : OpD X.K r rd) (ha : DE X ow B a ta) (hb : BE X ow B b tb) (hm : behindInMarks op b = false := by first | exact nomark _ | rfl) : DE X ow B (.Compare a [op] [b] pos) (dOp rd ta tb) :=
  (pe_cmpR ho ha hb hm).conv fun _ _ _ h => op_conv hd h
/-- a value as a test: a bool -/
def Rv.tstB : Rv → (Bool → Prop) → Prop
  | .fro (.bool b), k => k b
  | _, _ => False
def dTst (t : DT) : DTT := fun Γ k => t Γ fun ρ Γ' => ρ.tstB fun b => k b Γ'
theorem tst_conv {K : PySem.W.Frag} {ow : Ow} {B : Bs} {t : DT} {σ : L2.St} {H : Hp} {Q : Bool → Hp → Prop} (h : tT K ow B (dTst t) σ H Q) : tD K ow B t σ H fun x H' => ∃ k, x = .bl k ∧ Q k H' := by
  obtain ⟨Γ, F, w, S, k, q, hk⟩ := h
  refine ⟨Γ, F, w, S, _, q, fun ρ Γ' F' w' H' v A h1 e1 S1 r1 t1 => ?_⟩
  unfold Rv.tstB at h1
  split at h1
  · rename_i b
    exact ⟨b, r1.1.bl_inv, hk _ _ _ _ _ h1 e1 S1⟩
  · exact h1.elim
theorem dt_cmp {op : CmpOp} {r : R2} {rd : D → D → (Rv → Prop) → Prop} (ho : OpR X (compareOp op) r) (hd : OpD X.K r rd) (ha : DE X ow B a ta) (hb : BE X ow B b tb) (hm : behindInMarks op b = false := by first | exact nomark _ | rfl) : TTe X ow B (.Compare a [op] [b] pos) (dTst (dOp rd ta tb)) :=
  (pt_cmpR ho ha hb hm).conv fun σ H Q h => by
    have z := tst_conv h
    exact op_conv hd z
/-- a value as a test: its truth -/
def Rv.tru : Rv → (Bool → Prop) → Prop
  | .fro .none, k => k false
  | .fro (.bool b), k => k b
  | .fro (.int i), k => k (i != 0)
  | .fro (.str s), k => s.length ≤ sizeLine ∧ k (decide (s.length ≠ 0))
  | .fro (.list ds), k => k (!ds.isEmpty)
  | .fro (.tuple ds), k => k (!ds.isEmpty)
  | .lst ds, k => k (!ds.isEmpty)
  | .dct ds, k => k (!ds.isEmpty)
  | .fro (.dict _), _ => False
  | .scr ns, k => k (!ns.isEmpty)
  | _, _ => False
theorem isEmpty_rep {K : PySem.W.Frag} {F : Hp} {vs : List V} {ds : List D} (h : RepFs K F vs ds) : vs.isEmpty = ds.isEmpty := by cases h <;> rfl
theorem RepR.tru {K : PySem.W.Frag} {F H : Hp} {v : V} {ρ : Rv} {A : List Addr} {k : Bool → Prop} (r : RepR K F H v ρ A) (s : Same F H) (h : ρ.tru k) : ∃ b, TruV K v H b ∧ k b := by
  cases ρ with
  | fro d =>
    obtain ⟨r, _⟩ := r
    cases r with
    | non => exact ⟨false, rfl, h⟩
    | bl b => exact ⟨b, rfl, h⟩
    | int i => exact ⟨_, rfl, h⟩
    | str x =>
      refine ⟨_, ⟨h.1, ?_⟩, h.2⟩
      by_cases e : x.length = 0 <;> simp [e]
    | lst h1 h2 => exact ⟨_, .inl ⟨_, SqL.of (s _ _ h1), by rw [isEmpty_rep h2]⟩, h⟩
    | tup h1 h2 => exact ⟨_, .inr (.inl ⟨_, sqT_mono s h1.t, by rw [isEmpty_rep h2]⟩), h⟩
    | dic h1 h2 => exact h.elim
    | dit h1 h2 => exact h.elim
  | lst ds => obtain ⟨a, vs, rfl, q, z, rfl⟩ := r; exact ⟨_, .inl ⟨_, SqL.of q, by rw [isEmpty_rep z]⟩, h⟩
  | dct ds =>
    obtain ⟨a, vs, rfl, q, z, rfl⟩ := r
    refine ⟨_, .inr (.inr ⟨_, q, rfl⟩), ?_⟩
    have : vs.isEmpty = ds.isEmpty := by cases z <;> rfl
    rw [this]; exact h
  | scr ns =>
    obtain ⟨a, rfl, q, rfl⟩ := r
    refine ⟨_, .inl ⟨_, s.seq q, rfl⟩, ?_⟩
    have : (ns.map V.int).isEmpty = ns.isEmpty := by cases ns <;> rfl
    rw [this]; exact h
  | dtt ds => exact h.elim
  | st cs sd => exact h.elim
/-- a name's truth -/
def dTruV (i : Nat) : DTT := fun Γ k => match Γ[i]? with
  | some (some ρ) => ρ.tru fun b => k b Γ
  | _ => False
theorem _root_.L2.PE.truVar {i : Nat} {x : Str} {pos : Pos} (h : PE X (.Name x pos) (tVar i)) : TTe X ow B (.Name x pos) (dTruV i) := (pt_truth h (by intro _; rfl)).conv fun σ H Q ⟨Γ, F, w, S, k, q, hk⟩ => by
  unfold dTruV at q
  split at q
  · rename_i ρ e1
    obtain ⟨v, A, h1, r, _⟩ := S.slot i _ e1
    obtain ⟨b, t, h2⟩ := r.tru S.sub q
    exact ⟨v, h1, b, t, hk _ _ _ _ _ h2 (Same.refl F) S⟩
  · exact q.elim
def dTru (t : DT) : DTT := fun Γ k => t Γ fun ρ Γ' => ρ.tru fun b => k b Γ'
theorem dt_tru {e : Expr} (h : DE X ow B e ta) (he : ∀ whole, isTrue e X.env whole = (do let v ← whole; standAt e.pos; holding [v] (truthy v)) := by intro _; rfl) : TTe X ow B e (dTru ta) := (pt_truth h he).conv fun σ H Q ⟨Γ, F, w, S, k, q, hk⟩ =>
  ⟨Γ, F, w, S, _, q, fun ρ Γ' F' w' H' v A h1 e1 S1 r1 t1 => by
    obtain ⟨b, t, h2⟩ := r1.tru S1.sub h1
    exact ⟨b, t, hk _ _ _ _ _ h2 e1 S1⟩⟩
/-! ### and, or, not, if -/
variable {tA tC' : DTT} {rest : List Expr}
abbrev WTe (X : Cx) (ow : Ow) (B : Bs) (e : Expr) (t : DTT) : Prop := PW X e (tT X.K ow B t)
theorem _root_.L2.PW.conv {X : Cx} {e : Expr} {t t' : TT} (h : PW X e t) (c : ∀ σ H Q, t' σ H Q → t σ H Q) : PW X e t' := ⟨fun wh pins s σ H Q I q => h.run wh pins s σ H Q I (c σ H Q q)⟩
/-- the one or the other -/
def bP (b : Bool) (A C : Prop) : Prop := match b with
  | true => A
  | false => C
theorem mB {b : Bool} {A C : Prop} (h : b = true → A) (g : b = false → C) : bP b A C := by
  cases b with
  | true => exact h rfl
  | false => exact g rfl
def dAnd (t u : DTT) : DTT := fun Γ k => t Γ fun b Γ1 => bP b (u Γ1 k) (k false Γ1)
def dOr (t u : DTT) : DTT := fun Γ k => t Γ fun b Γ1 => bP b (k true Γ1) (u Γ1 k)
def dNot (t : DTT) : DTT := fun Γ k => t Γ fun b Γ1 => k (!b) Γ1
theorem dw_and1 (ha : TTe X ow B a tA) : WTe X ow B (.BoolOp .And [a] pos) tA := pw_and1 ha
theorem dw_or1 (ha : TTe X ow B a tA) : WTe X ow B (.BoolOp .Or [a] pos) tA := pw_or1 ha
theorem dw_and (ha : TTe X ow B a tA) (hb : WTe X ow B (.BoolOp .And (b :: rest) pos) tC') : WTe X ow B (.BoolOp .And (a :: b :: rest) pos) (dAnd tA tC') := (pw_and ha hb).conv fun σ H Q ⟨Γ, F, w, S, k, q, hk⟩ =>
  ⟨Γ, F, w, S, _, q, fun c Γ1 F1 w1 H1 h1 e1 S1 => by
    cases c with
    | true => rw [if_pos rfl]; exact ⟨Γ1, F1, w1, S1, k, h1, fun b Γ' F' w' H' h2 e2 S2 => hk _ _ _ _ _ h2 (e1.trans e2) S2⟩
    | false => rw [if_neg Bool.false_ne_true]; exact hk _ _ _ _ _ h1 e1 S1⟩
theorem dw_or (ha : TTe X ow B a tA) (hb : WTe X ow B (.BoolOp .Or (b :: rest) pos) tC') : WTe X ow B (.BoolOp .Or (a :: b :: rest) pos) (dOr tA tC') := (pw_or ha hb).conv fun σ H Q ⟨Γ, F, w, S, k, q, hk⟩ =>
  ⟨Γ, F, w, S, _, q, fun c Γ1 F1 w1 H1 h1 e1 S1 => by
    cases c with
    | true => rw [if_pos rfl]; exact hk _ _ _ _ _ h1 e1 S1
    | false => rw [if_neg Bool.false_ne_true]; exact ⟨Γ1, F1, w1, S1, k, h1, fun b Γ' F' w' H' h2 e2 S2 => hk _ _ _ _ _ h2 (e1.trans e2) S2⟩⟩
theorem dt_not (ha : TTe X ow B a tA) : TTe X ow B (.UnaryOp .Not a pos) (dNot tA) := (pt_not ha).conv fun σ H Q ⟨Γ, F, w, S, k, q, hk⟩ => ⟨Γ, F, w, S, _, q, fun c Γ1 F1 w1 H1 h1 e1 S1 => hk _ _ _ _ _ h1 e1 S1⟩
/-- a if t else b -/
def dIf (t : DTT) (ta tb : DT) : DT := fun Γ k => t Γ fun b Γ1 => bP b (ta Γ1 k) (tb Γ1 k)
theorem de_if {td : DT} (hc : TTe X ow B c tA) (ha : DE X ow B a ta) (hb : DE X ow B b td) : DE X ow B (.IfExp c a b pos) (dIf tA ta td) := (pe_ifExp hc ha hb).conv fun σ H Q ⟨Γ, F, w, S, k, q, hk⟩ =>
  ⟨Γ, F, w, S, _, q, fun c Γ1 F1 w1 H1 h1 e1 S1 => by
    cases c with
    | true => rw [if_pos rfl]; exact ⟨Γ1, F1, w1, S1, k, h1, fun ρ Γ' F' w' H' v A h2 e2 S2 r t => hk _ _ _ _ _ _ _ h2 (e1.trans e2) S2 r t⟩
    | false => rw [if_neg Bool.false_ne_true]; exact ⟨Γ1, F1, w1, S1, k, h1, fun ρ Γ' F' w' H' v A h2 e2 S2 r t => hk _ _ _ _ _ _ _ h2 (e1.trans e2) S2 r t⟩⟩
/-- a and b, a or b as values: bools -/
def Rv.asB : Rv → (Bool → Prop) → Prop
  | .fro (.bool b), k => k b
  | _, _ => False
theorem Rv.asB_inv {ρ : Rv} {k : Bool → Prop} (h : ρ.asB k) : ∃ b, ρ = .fro (.bool b) ∧ k b := by
  unfold Rv.asB at h
  split at h
  · exact ⟨_, rfl, h⟩
  · exact h.elim
def dAndV (ta tb : DT) : DT := fun Γ k => ta Γ fun ρ Γ1 => ρ.asB fun b => bP b (tb Γ1 k) (k (.fro (.bool false)) Γ1)
def dOrV (ta tb : DT) : DT := fun Γ k => ta Γ fun ρ Γ1 => ρ.asB fun b => bP b (k (.fro (.bool true)) Γ1) (tb Γ1 k)
def dNotV (t : DT) : DT := fun Γ k => t Γ fun ρ Γ1 => ρ.asB fun b => k (.fro (.bool (!b))) Γ1
theorem de_one {op} (h : DE X ow B a ta) : DE X ow B (.BoolOp op [a] pos) ta := pe_one h
theorem de_and {td : DT} (ha : DE X ow B a ta) (hb : DE X ow B (.BoolOp .And (b :: rest) pos) td) : DE X ow B (.BoolOp .And (a :: b :: rest) pos) (dAndV ta td) := (pe_and ha hb).conv fun σ H Q ⟨Γ, F, w, S, k, q, hk⟩ =>
  ⟨Γ, F, w, S, _, q, fun ρ Γ1 F1 w1 H1 v A h1 e1 S1 r1 t1 => by
    obtain ⟨b, rfl, h1⟩ := Rv.asB_inv h1
    cases b with
    | true =>
      refine ⟨true, r1.1.bl_inv, ?_⟩
      rw [if_pos rfl]; exact ⟨Γ1, F1, w1, S1, k, h1, fun ρ Γ' F' w' H' v A h2 e2 S2 r t => hk _ _ _ _ _ _ _ h2 (e1.trans e2) S2 r t⟩
    | false =>
      refine ⟨false, r1.1.bl_inv, ?_⟩
      rw [if_neg Bool.false_ne_true]; exact hk _ _ _ _ _ _ _ h1 e1 S1 ⟨.bl false, rfl⟩ Tmp.nil⟩
theorem de_or {td : DT} (ha : DE X ow B a ta) (hb : DE X ow B (.BoolOp .Or (b :: rest) pos) td) : DE X ow B (.BoolOp .Or (a :: b :: rest) pos) (dOrV ta td) := (pe_or ha hb).conv fun σ H Q ⟨Γ, F, w, S, k, q, hk⟩ =>
  ⟨Γ, F, w, S, _, q, fun ρ Γ1 F1 w1 H1 v A h1 e1 S1 r1 t1 => by
    obtain ⟨b, rfl, h1⟩ := Rv.asB_inv h1
    cases b with
    | true =>
      refine ⟨true, r1.1.bl_inv, ?_⟩
      rw [if_pos rfl]; exact hk _ _ _ _ _ _ _ h1 e1 S1 ⟨.bl true, rfl⟩ Tmp.nil
    | false =>
      refine ⟨false, r1.1.bl_inv, ?_⟩
      rw [if_neg Bool.false_ne_true]; exact ⟨Γ1, F1, w1, S1, k, h1, fun ρ Γ' F' w' H' v A h2 e2 S2 r t => hk _ _ _ _ _ _ _ h2 (e1.trans e2) S2 r t⟩⟩
theorem de_not (ha : DE X ow B a ta) : DE X ow B (.UnaryOp .Not a pos) (dNotV ta) := (pe_not ha).conv fun σ H Q ⟨Γ, F, w, S, k, q, hk⟩ =>
  ⟨Γ, F, w, S, _, q, fun ρ Γ1 F1 w1 H1 v A h1 e1 S1 r1 t1 => by
    obtain ⟨b0, rfl, h1⟩ := Rv.asB_inv h1
    exact ⟨b0, r1.1.bl_inv, hk _ _ _ _ _ _ _ h1 e1 S1 ⟨.bl _, rfl⟩ Tmp.nil⟩⟩
/-! ### constants, module's values -/
theorem de_int {i j pos} : DE X ow B (.Constant (.int i) j pos) (dC (.int i)) := pe_int.conv fun σ H Q ⟨Γ, F, w, S, k, q, hk⟩ => hk _ _ _ _ _ _ _ q (Same.refl F) S ⟨.int i, rfl⟩ Tmp.nil
theorem de_bl {i j pos} : DE X ow B (.Constant (.bool i) j pos) (dC (.bool i)) := pe_bl.conv fun σ H Q ⟨Γ, F, w, S, k, q, hk⟩ => hk _ _ _ _ _ _ _ q (Same.refl F) S ⟨.bl i, rfl⟩ Tmp.nil
theorem de_non {j pos} : DE X ow B (.Constant .none j pos) (dC .none) := pe_non.conv fun σ H Q ⟨Γ, F, w, S, k, q, hk⟩ => hk _ _ _ _ _ _ _ q (Same.refl F) S ⟨.non, rfl⟩ Tmp.nil
theorem de_str {i j pos} : DE X ow B (.Constant (.str i) j pos) (dC (.str i)) := pe_str.conv fun σ H Q ⟨Γ, F, w, S, k, q, hk⟩ => hk _ _ _ _ _ _ _ q (Same.refl F) S ⟨.str i, rfl⟩ Tmp.nil
/-- data of the written part -/
def KDat (K : PySem.W.Frag) (v : V) (d : D) : Prop := ∀ F, RepF K F v d
theorem de_glob {x : Str} {v : V} {u : Value} {d : D} {pos : Pos} (hg : Gl X x) (hm : X.mg x = some u) (r : RelV v u) (hd : KDat X.K v d) (hdb : (x == ("__debug__" : Str)) = false := by decide) : DE X ow B (.Name x pos) (dC d) :=
  (pe_glob hg hm r hdb).conv fun σ H Q ⟨Γ, F, w, S, k, q, hk⟩ => hk _ _ _ _ _ _ _ q (Same.refl F) S ⟨hd F, rfl⟩ Tmp.nil
end
end Dn
set_option Elab.async false
set_option linter.all false
set_option maxRecDepth 100000
set_option maxHeartbeats 2000000
/-! # Dn: operators, subscripts, slices, displays, built-ins over plain data -/
namespace Dn
open PySem PySem.Spec PyProof.Rows L2

/-! ### new tuples, their objects told -/
section
variable {X : Cx} {pos : Pos}
def tTupN (t : TA) : TE := fun σ H Q => t σ H fun xs H1 => xs.length ≤ sizeLine ∧ ∀ (p : Addr) (o : Obj), H1 p = none → o.dict = none → Q (.ref p) (upd H1 p (.frz o (.tup xs)))
theorem pe_tupN {es : List Expr} {t : TA} {x1} (h : PA X es t) : PE X (.Tuple es x1 pos) (tTupN t) := by
  refine ⟨fun pins s σ H Q I hq => ?_⟩
  refine wpAny_Tuple_spliced (thn (h.run pos pins s σ H _ I hq) fun us s1 ⟨xs, H1, J, r, z, q⟩ => ⟨by rw [← r.length]; exact z, ?_⟩)
  refine ⟨.ref s1.heap.objs.size, _, J.laid (t' := s1.toks) (o := .frz { cls := .type "tuple", data := .seq us.toArray } (.tup xs)) (fun b u e => Heap.get?_push_of_some _ e) (Nat.le_refl _) ⟨Heap.get?_push_size _ rfl, z, us, r, ⟨_, Heap.get?_push_size _ rfl, rfl, _, rfl⟩⟩, rfl, q _ _ (J.hok.fresh (Nat.le_refl _)) rfl⟩
def rCatN (K : PySem.W.Frag) : R2 := fun x y H Q => ∃ (a b : Addr) (xs ys : List V), x = .ref a ∧ y = .ref b ∧ SqT K H a xs ∧ SqT K H b ys ∧ xs.length + ys.length ≤ sizeLine ∧ (xs = [] → Q (.ref b) H) ∧ (xs ≠ [] → ys = [] → Q (.ref a) H) ∧
  (xs ≠ [] → ys ≠ [] → ∀ (p : Addr) (o : Obj), H p = none → o.dict = none → Q (.ref p) (upd H p (.frz o (.tup (xs ++ ys)))))
theorem op_catN : OpR X (binaryOp .Add) (rCatN X.K) := by
  intro pins s σ H x y v u Q I rx ry h
  obtain ⟨a, b, xs, ys, rfl, rfl, ha, hb, hz, q0, q1, q2⟩ := h
  obtain rfl : v = Value.ref a := rx
  obtain rfl : u = Value.ref b := ry
  obtain ⟨its, r1, p1, _⟩ := I.tuple ha
  obtain ⟨its2, r2, p2, _⟩ := I.tuple hb
  by_cases hx : xs = []
  · subst hx
    cases r1
    exact cat_tup0 p1 p2 ⟨.ref b, H, I, rfl, q0 rfl⟩
  · refine HT.cat_tup p1 p2 (fun z => hx (r1.nil_iff.mp z)) (fun z => ⟨.ref a, H, I, rfl, q1 hx (r2.nil_iff.mp z)⟩) (fun z => ?_) (by rw [← r1.length, ← r2.length]; exact hz)
    exact ⟨.ref s.heap.objs.size, _, I.laid (t' := s.toks) (o := .frz { cls := .type "tuple", data := .seq (its ++ its2).toArray } (.tup (xs ++ ys))) (fun b ob q => Heap.get?_push_of_some _ q) (Nat.le_refl _) ⟨by simpa using Heap.get?_push_size _ rfl, by rw [List.length_append]; exact hz, _, r1.append r2, by simpa using IsTup.new _ _⟩, rfl, q2 hx (fun w => z (r2.nil_iff.mpr w)) _ _ (I.hok.fresh (Nat.le_refl _)) rfl⟩
def rSlN (K : PySem.W.Frag) : V → Option Int → Option Int → Hp → VK → Prop := fun x lo hi H Q => ∃ (a : Addr) (xs : List V), x = .ref a ∧ SqT K H a xs ∧
  (HT.sIx xs.length 0 lo = 0 ∧ HT.sIx xs.length xs.length hi = xs.length → Q (.ref a) H) ∧ (¬ (HT.sIx xs.length 0 lo = 0 ∧ HT.sIx xs.length xs.length hi = xs.length) → ∀ (p : Addr) (o : Obj), H p = none → o.dict = none → Q (.ref p) (upd H p (.frz o (.tup (cutV xs lo hi)))))
theorem sl_tupN : SlR X (rSlN X.K) := by
  intro pins s σ H x v vl vu lo hi sl Q I rx hs pl pu h
  obtain ⟨a, xs, rfl, hx, q1, q2⟩ := h
  obtain rfl : v = Value.ref a := rx
  obtain ⟨its, r, ht, hz⟩ := I.tuple hx
  have hlen : its.toArray.size = xs.length := by rw [List.size_toArray]; exact r.length.symm
  refine ⟨"tuple", _, PyProof.Rows.slot_tuple_getitem.lookup, ht.typeIs, ?_⟩
  by_cases hw : HT.sIx xs.length 0 lo = 0 ∧ HT.sIx xs.length xs.length hi = xs.length
  · exact getItem_tuple_whole ht hs pl pu (by rw [hlen]; exact hw) ⟨.ref a, H, I, rfl, q1 hw⟩
  · refine HT.getItem_tuple_cut ht hs pl pu (by rw [hlen]; exact hw) ?_ (by rw [hlen]; exact hz)
    rw [hlen]
    exact ⟨.ref s.heap.objs.size, _, I.laid (t' := s.toks) (o := .frz _ (.tup (cutV xs lo hi))) (fun b ob q => Heap.get?_push_of_some _ q) (Nat.le_refl _) ⟨Heap.get?_push_size _ rfl, Nat.le_trans (cutV_length xs lo hi) hz, _, (r.drop (HT.sIx xs.length 0 lo)).take (HT.sIx xs.length xs.length hi - HT.sIx xs.length 0 lo), IsTup.new _ _⟩, rfl, q2 hw _ _ (I.hok.fresh (Nat.le_refl _)) rfl⟩
theorem call_tuple_ofN : CallR X (.type "tuple") (fun xs H Q => ∃ (p : Addr) (ys : List V), xs = [.ref p] ∧ ((SqL X.K H p ys ∧ ∀ (l : Addr) (o : Obj), H l = none → o.dict = none → Q (.ref l) (upd H l (.frz o (.tup ys)))) ∨ (SqT X.K H p ys ∧ Q (.ref p) H))) := by
  intro pins s σ H xs us Q I r h
  obtain ⟨p, ys, rfl, h⟩ := h
  rw [Vals.ref1 r]
  rcases h with ⟨hq, q⟩ | ⟨hq, q⟩
  · obtain ⟨its, r', pl, hz⟩ := I.list hq
    have hlen := r'.length
    refine call_tuple_list pl.isList (fun h' kp => ?_) (by simp only [List.size_toArray] <;> omega)
    have J : Inv X pins σ H { s with heap := h' } := I.kept (t' := s.toks) kp
    have J2 := J.laid (t' := s.toks) (h' := h'.push { cls := .type "tuple", data := .seq its.toArray }) (o := .frz { cls := .type "tuple", data := .seq its.toArray } (.tup ys)) (fun b o e => Heap.get?_push_of_some _ e) (Nat.le_refl _) ⟨Heap.get?_push_size _ rfl, hz, its, r', IsTup.new _ _⟩
    exact ⟨.ref h'.objs.size, _, J2, rfl, q _ _ (J.hok.fresh (Nat.le_refl _)) rfl⟩
  · obtain ⟨its, r', pl, hz⟩ := I.tuple hq
    exact call_tuple_same pl ⟨.ref p, H, I, rfl, q⟩
end
/-! ### arithmetic -/
def dI2 (C : Int → Int → Prop) (g : Int → Int → Int) : D → D → (Rv → Prop) → Prop := fun d e k => match d, e with
  | .int i, .int j => C i j ∧ k (.fro (.int (g i j)))
  | _, _ => False
def dI0 (g : Int → Int → Int) : D → D → (Rv → Prop) → Prop := fun d e k => match d, e with
  | .int i, .int j => k (.fro (.int (g i j)))
  | _, _ => False
def dIB (g : Int → Int → Bool) : D → D → (Rv → Prop) → Prop := fun d e k => match d, e with
  | .int i, .int j => k (.fro (.bool (g i j)))
  | _, _ => False
theorem od_I2 {K : PySem.W.Frag} {C : Int → Int → Prop} {g : Int → Int → Int} : OpD K (rI C fun i j => .int (g i j)) (dI2 C g) := by
  intro ow B Γ F w σ H x y d e k Q S rx ry h a
  unfold dI2 at h
  split at h
  · rename_i i j
    exact ⟨i, j, rx.int_inv, ry.int_inv, h.1, a.val S (.int _) h.2⟩
  · exact h.elim
theorem od_I0 {K : PySem.W.Frag} {g : Int → Int → Int} : OpD K (rI0 fun i j => .int (g i j)) (dI0 g) := by
  intro ow B Γ F w σ H x y d e k Q S rx ry h a
  unfold dI0 at h
  split at h
  · rename_i i j
    exact ⟨i, j, rx.int_inv, ry.int_inv, a.val S (.int _) h⟩
  · exact h.elim
theorem od_IB {K : PySem.W.Frag} {g : Int → Int → Bool} : OpD K (rI0 fun i j => .bl (g i j)) (dIB g) := by
  intro ow B Γ F w σ H x y d e k Q S rx ry h a
  unfold dIB at h
  split at h
  · rename_i i j
    exact ⟨i, j, rx.int_inv, ry.int_inv, a.val S (.bl _) h⟩
  · exact h.elim
/-- + -/
def rAddA (K : PySem.W.Frag) : R2 := fun x y H Q => ((rI0 fun i j => .int (i + j)) x y H Q ∨ (∃ i j, x = .str i ∧ y = .str j ∧ i.length + j.length ≤ sizeLine ∧ Q (.str (i ++ j)) H)) ∨ (rCat x y H Q ∨ rCatN K x y H Q)
def dAdd : D → D → (Rv → Prop) → Prop := fun d e k => match d, e with
  | .int i, .int j => k (.fro (.int (i + j)))
  | .str i, .str j => i.length + j.length ≤ sizeLine ∧ k (.fro (.str (i ++ j)))
  | .list xs, .list ys => xs.length + ys.length ≤ sizeLine ∧ k (.lst (xs ++ ys))
  | .tuple xs, .tuple ys => xs.length + ys.length ≤ sizeLine ∧ k (.fro (.tuple (xs ++ ys)))
  | _, _ => False
theorem od_add {K : PySem.W.Frag} : OpD K (rAddA K) dAdd := by
  intro ow B Γ F w σ H x y d e k Q S rx ry h a
  unfold dAdd at h
  split at h
  · rename_i i j
    exact .inl (.inl ⟨i, j, rx.int_inv, ry.int_inv, a.val S (.int _) h⟩)
  · rename_i i j
    exact .inl (.inr ⟨i, j, rx.str_inv, ry.str_inv, h.1, a.val S (.str _) h.2⟩)
  · rename_i xs ys
    obtain ⟨l, vs, rfl, h1, r1⟩ := rx.lst_inv S.sub
    obtain ⟨b, ws, rfl, h2, r2⟩ := ry.lst_inv S.sub
    exact .inr (.inl ⟨l, b, vs, ws, rfl, rfl, h1, h2, by rw [r1.length, r2.length]; exact h.1, fun p hp => a.newL S (r1.append r2) h.2 hp⟩)
  · rename_i xs ys
    obtain ⟨l, vs, rfl, h1, r1⟩ := rx.tup_invN
    obtain ⟨b, ws, rfl, h2, r2⟩ := ry.tup_invN
    refine .inr (.inr ⟨l, b, vs, ws, rfl, rfl, sqT_mono S.sub h1.t, sqT_mono S.sub h2.t, by rw [r1.length, r2.length]; exact h.1, fun e => ?_, fun _ e => ?_, fun _ _ p o hp ho => a.newT S (r1.append r2) h.2 hp ho⟩)
    · subst e
      cases r1
      exact a.val S (.tup h2 r2) h.2
    · subst e
      cases r2
      exact a.val S (.tup h1 r1) (by have := h.2; rw [List.append_nil] at this; exact this)
  · exact h.elim
section
variable {X : Cx} {ow : Ow} {B : Bs} {a b : Expr} {pos : Pos} {ta : DT} {tb : DB}
theorem op_addA : OpR X (binaryOp .Add) (rAddA X.K) := (op_add.or op_add_str).or (op_cat.or op_catN)
theorem de_add (ha : DE X ow B a ta) (hb : BE X ow B b tb) : DE X ow B (.BinOp a .Add b pos) (dOp dAdd ta tb) := de_op op_addA od_add ha hb
theorem de_sub (ha : DE X ow B a ta) (hb : BE X ow B b tb) : DE X ow B (.BinOp a .Sub b pos) (dOp (dI0 (· - ·)) ta tb) := de_op op_sub od_I0 ha hb
/-- * -/
def rMulA (K : PySem.W.Frag) : R2 := fun x y H Q => (rI CMulX fun i j => .int (i * j)) x y H Q ∨ rRep x y H Q
def dMul : D → D → (Rv → Prop) → Prop := fun d e k => match d, e with
  | .int i, .int j => CMulX i j ∧ k (.fro (.int (i * j)))
  | .list xs, .int n => (-(2 ^ 63) ≤ n ∧ n < 2 ^ 63 ∧ xs.length * n.toNat ≤ sizeLine) ∧ k (.lst (List.replicate n.toNat xs).flatten)
  | _, _ => False
theorem od_mul {K : PySem.W.Frag} : OpD K (rMulA K) dMul := by
  intro ow B Γ F w σ H x y d e k Q S rx ry h a
  unfold dMul at h
  split at h
  · rename_i i j
    exact .inl ⟨i, j, rx.int_inv, ry.int_inv, h.1, a.val S (.int _) h.2⟩
  · rename_i xs n
    obtain ⟨l, vs, rfl, h1, r1⟩ := rx.lst_inv S.sub
    exact .inr ⟨l, n, vs, rfl, ry.int_inv, h1, h.1.1, h.1.2.1, by rw [r1.length]; exact h.1.2.2, fun p hp => a.newL S (r1.rep _) h.2 hp⟩
  · exact h.elim
theorem op_mulA : OpR X (binaryOp .Mult) (rMulA X.K) := op_mulX.or op_rep
theorem de_mul (ha : DE X ow B a ta) (hb : BE X ow B b tb) : DE X ow B (.BinOp a .Mult b pos) (dOp dMul ta tb) := de_op op_mulA od_mul ha hb
theorem de_mod (ha : DE X ow B a ta) (hb : BE X ow B b tb) : DE X ow B (.BinOp a .Mod b pos) (dOp (dI2 (fun _ j => 0 < j) (· % ·)) ta tb) := de_op op_mod od_I2 ha hb
theorem de_fdiv (ha : DE X ow B a ta) (hb : BE X ow B b tb) : DE X ow B (.BinOp a .FloorDiv b pos) (dOp (dI2 CDivW (· / ·)) ta tb) := de_op op_fdivW od_I2 ha hb
theorem de_shl (ha : DE X ow B a ta) (hb : BE X ow B b tb) : DE X ow B (.BinOp a .LShift b pos) (dOp (dI2 CShl fun i j => i * 2 ^ j.toNat) ta tb) := de_op op_shlW od_I2 ha hb
theorem de_shr (ha : DE X ow B a ta) (hb : BE X ow B b tb) : DE X ow B (.BinOp a .RShift b pos) (dOp (dI2 (fun _ j => 0 ≤ j) fun i j => i / 2 ^ j.toNat) ta tb) := de_op op_shr od_I2 ha hb
theorem de_pow (ha : DE X ow B a ta) (hb : BE X ow B b tb) : DE X ow B (.BinOp a .Pow b pos) (dOp (dI2 CPow fun i j => i ^ j.toNat) ta tb) := de_op op_pow od_I2 ha hb
theorem de_band (ha : DE X ow B a ta) (hb : BE X ow B b tb) : DE X ow B (.BinOp a .BitAnd b pos) (dOp (dI0 Builtin.bitAnd) ta tb) := de_op op_and od_I0 ha hb
theorem de_bor (ha : DE X ow B a ta) (hb : BE X ow B b tb) : DE X ow B (.BinOp a .BitOr b pos) (dOp (dI0 Builtin.bitOr) ta tb) := de_op op_or od_I0 ha hb
theorem de_bxor (ha : DE X ow B a ta) (hb : BE X ow B b tb) : DE X ow B (.BinOp a .BitXor b pos) (dOp (dI0 Builtin.bitXor) ta tb) := de_op op_xor od_I0 ha hb
def dNeg : D → (Rv → Prop) → Prop := fun d k => match d with
  | .int i => k (.fro (.int (-i)))
  | _ => False
theorem ud_neg {K : PySem.W.Frag} : UnD K (rU fun i => .int (-i)) dNeg := by
  intro ow B Γ F w σ H x d k Q S rx h a
  unfold dNeg at h
  split at h
  · rename_i i
    exact ⟨i, rx.int_inv, a.val S (.int _) h⟩
  · exact h.elim
theorem de_neg (ha : BE X ow B a tb) : DE X ow B (.UnaryOp .USub a pos) (dUn dNeg tb) := de_un un_neg ud_neg ha

/-! ### comparisons -/
abbrev dLt := dIB fun i j => decide (i < j)
abbrev dLe := dIB fun i j => decide (i ≤ j)
abbrev dGt := dIB fun i j => decide (j < i)
abbrev dGe := dIB fun i j => decide (j ≤ i)
theorem or_lt : OpR X (compareOp .Lt) (rI0 fun i j => .bl (decide (i < j))) := op_lt
def dEq : D → D → (Rv → Prop) → Prop := fun d e k => (SeqAt.shaped d = true ∧ SeqAt.shaped e = true) ∧ k (.fro (.bool (PyData.eqv d e)))
def dNe : D → D → (Rv → Prop) → Prop := fun d e k => (SeqAt.shaped d = true ∧ SeqAt.shaped e = true) ∧ k (.fro (.bool (!PyData.eqv d e)))
theorem od_eq {K : PySem.W.Frag} : OpD K (rEqD K) dEq := fun S rx ry h a => ⟨_, _, rx.dp S.sub h.1.1, ry.dp S.sub h.1.2, h.1.1, h.1.2, a.val S (.bl _) h.2⟩
theorem od_ne {K : PySem.W.Frag} : OpD K (rNeD K) dNe := fun S rx ry h a => ⟨_, _, rx.dp S.sub h.1.1, ry.dp S.sub h.1.2, h.1.1, h.1.2, a.val S (.bl _) h.2⟩
/-- in -/
def rInT (K : PySem.W.Frag) (neg : Bool) : R2 := fun x y H Q => ∃ d ds, Dp K H x d ∧ Dp K H y (.tuple ds) ∧ SeqAt.shaped d = true ∧ SeqAt.shaped (.tuple ds) = true ∧ Q (.bl (neg ^^ ds.any fun z => PyData.eqv z d)) H
theorem op_inT (hu : X.A.units + 65 < cLine) : OpR X (compareOp .In) (rInT X.K false) := by
  intro pins s σ H x y v u Q I rx ry h
  obtain ⟨d, ds, hd, he, sd, se, q⟩ := h
  obtain ⟨as, r1⟩ := Dp.reads I d x v hd rx
  obtain ⟨bs, r2⟩ := Dp.reads I (.tuple ds) y u he ry
  exact SeqAt.in_tuple_reads r2 r1 (SeqAt.canLay_of_shaped se) (SeqAt.canLay_of_shaped sd) (room_in_shaped sd hu) ⟨.bl _, H, I, rfl, by simpa using q⟩
theorem op_notInT (hu : X.A.units + 65 < cLine) : OpR X (compareOp .NotIn) (rInT X.K true) := by
  intro pins s σ H x y v u Q I rx ry h
  obtain ⟨d, ds, hd, he, sd, se, q⟩ := h
  obtain ⟨as, r1⟩ := Dp.reads I d x v hd rx
  obtain ⟨bs, r2⟩ := Dp.reads I (.tuple ds) y u he ry
  exact SeqAt.notIn_tuple_reads r2 r1 (SeqAt.canLay_of_shaped se) (SeqAt.canLay_of_shaped sd) (room_in_shaped sd hu) ⟨.bl _, H, I, rfl, by simpa using q⟩
def rInS (neg : Bool) : R2 := fun x y H Q => ∃ i j, x = .str i ∧ y = .str j ∧ Q (.bl (neg ^^ (!(Builtin.Str.occurrences j i 0 j.length 1).isEmpty))) H
theorem op_inS : OpR X (compareOp .In) (rInS false) := fun pins s σ H x y v u Q I rx ry ⟨i, j, e1, e2, q⟩ => op_in_str pins s σ H x y v u Q I rx ry ⟨i, j, e1, e2, by simpa using q⟩
theorem op_notInS : OpR X (compareOp .NotIn) (rInS true) := fun pins s σ H x y v u Q I rx ry ⟨i, j, e1, e2, q⟩ => op_notin_str pins s σ H x y v u Q I rx ry ⟨i, j, e1, e2, by simpa using q⟩
def rInL (K : PySem.W.Frag) (neg : Bool) : R2 := fun x y H Q => ∃ d ds, Dp K H x d ∧ Dp K H y (.list ds) ∧ SeqAt.shaped d = true ∧ SeqAt.shaped (.list ds) = true ∧ Q (.bl (neg ^^ ds.any fun z => PyData.eqv z d)) H
theorem op_inL (hu : X.A.units + 65 < cLine) : OpR X (compareOp .In) (rInL X.K false) := fun pins s σ H x y v u Q I rx ry ⟨d, ds, a1, a2, a3, a4, q⟩ => op_inD hu pins s σ H x y v u Q I rx ry ⟨d, ds, a1, a2, a3, a4, by simpa using q⟩
theorem op_notInL (hu : X.A.units + 65 < cLine) : OpR X (compareOp .NotIn) (rInL X.K true) := fun pins s σ H x y v u Q I rx ry ⟨d, ds, a1, a2, a3, a4, q⟩ => op_notInD hu pins s σ H x y v u Q I rx ry ⟨d, ds, a1, a2, a3, a4, by simpa using q⟩
def rInA (K : PySem.W.Frag) (neg : Bool) : R2 := fun x y H Q => rInL K neg x y H Q ∨ (rInT K neg x y H Q ∨ rInS neg x y H Q)
theorem op_inA (hu : X.A.units + 65 < cLine) : OpR X (compareOp .In) (rInA X.K false) := (op_inL hu).or ((op_inT hu).or op_inS)
theorem op_notInA (hu : X.A.units + 65 < cLine) : OpR X (compareOp .NotIn) (rInA X.K true) := (op_notInL hu).or ((op_notInT hu).or op_notInS)
def dIn (neg : Bool) : D → D → (Rv → Prop) → Prop := fun d e k => match e with
  | .list ds => (SeqAt.shaped d = true ∧ SeqAt.shaped (.list ds) = true) ∧ k (.fro (.bool (neg ^^ ds.any fun z => PyData.eqv z d)))
  | .tuple ds => (SeqAt.shaped d = true ∧ SeqAt.shaped (.tuple ds) = true) ∧ k (.fro (.bool (neg ^^ ds.any fun z => PyData.eqv z d)))
  | .str y => match d with
    | .str x => k (.fro (.bool (neg ^^ (!(Builtin.Str.occurrences y x 0 y.length 1).isEmpty))))
    | _ => False
  | _ => False
theorem od_in {K : PySem.W.Frag} {neg : Bool} : OpD K (rInA K neg) (dIn neg) := by
  intro ow B Γ F w σ H x y d e k Q S rx ry h a
  unfold dIn at h
  split at h
  · exact .inl ⟨_, _, rx.dp S.sub h.1.1, ry.dp S.sub h.1.2, h.1.1, h.1.2, a.val S (.bl _) h.2⟩
  · exact .inr (.inl ⟨_, _, rx.dp S.sub h.1.1, ry.dp S.sub h.1.2, h.1.1, h.1.2, a.val S (.bl _) h.2⟩)
  · split at h
    · exact .inr (.inr ⟨_, _, rx.str_inv, ry.str_inv, a.val S (.bl _) h⟩)
    · exact h.elim
  · exact h.elim
/-- is None -/
def isNonD : D → Bool
  | .none => true
  | _ => false
def dIsN (neg : Bool) : D → D → (Rv → Prop) → Prop := fun d e k => match e with
  | .none => k (.fro (.bool (neg ^^ isNonD d)))
  | _ => False
theorem rep_non {K : PySem.W.Frag} {F H : Hp} {x : V} {d : D} (r : RepB K F H x d) : decide (x = .non) = isNonD d := by
  rcases r with r | ⟨a, vs, ds, rfl, rfl, _⟩
  · cases r <;> simp [isNonD]
  · simp [isNonD]
theorem od_isN {K : PySem.W.Frag} : OpD K (fun x y H Q => y = .non ∧ Q (.bl (decide (x = .non))) H) (dIsN false) := by
  intro ow B Γ F w σ H x y d e k Q S rx ry h a
  unfold dIsN at h
  split at h
  · refine ⟨ry.non_inv, ?_⟩
    rw [rep_non rx]
    exact a.val S (.bl _) (by simpa using h)
  · exact h.elim
theorem od_notN {K : PySem.W.Frag} : OpD K (fun x y H Q => y = .non ∧ Q (.bl (!decide (x = .non))) H) (dIsN true) := by
  intro ow B Γ F w σ H x y d e k Q S rx ry h a
  unfold dIsN at h
  split at h
  · refine ⟨ry.non_inv, ?_⟩
    rw [rep_non rx]
    exact a.val S (.bl _) (by simpa using h)
  · exact h.elim
/-- a < b < c -/
def dChain (rd rd' : D → D → (Rv → Prop) → Prop) (ta : DT) (tb tc : DT) : DT := fun Γ k => ta Γ fun x Γ1 => x.frz fun d => tb Γ1 fun y Γ2 => y.frz fun e => rd d e fun ρ => match ρ with
  | .fro (.bool true) => tc Γ2 fun z Γ3 => z.frz fun f => rd' e f fun ρ => k ρ Γ3
  | .fro (.bool false) => k (.fro (.bool false)) Γ2
  | _ => False

/-! ### subscripts -/
def dIx : D → D → (Rv → Prop) → Prop := fun d e k => match d, e with
  | .list ds, .int i => ∃ d, atI ds i = some d ∧ k (.fro d)
  | .tuple ds, .int i => ∃ d, atI ds i = some d ∧ k (.fro d)
  | .str z, .int i => z.length ≤ sizeLine ∧ ∃ c, atI z.cps.toList i = some c ∧ k (.fro (.str ⟨#[c]⟩))
  | _, _ => False
theorem atI_rep {K : PySem.W.Frag} {F : Hp} {vs : List V} {ds : List D} (h : RepFs K F vs ds) {i : Int} {d : D} (e : atI ds i = some d) : ∃ v, atI vs i = some v ∧ RepF K F v d := by
  unfold atI at e ⊢
  rw [h.length]
  cases q : ixN ds.length i with
  | none => rw [q] at e; cases e
  | some j =>
    rw [q] at e
    obtain ⟨v, h1, h2⟩ := h.get (show ds[j]? = some d from e)
    exact ⟨v, h1, h2⟩
theorem od_ix {K : PySem.W.Frag} : OpD K (rIx K) dIx := by
  intro ow B Γ F w σ H x y d e k Q S rx ry h a
  unfold dIx at h
  split at h
  · rename_i ds i
    obtain ⟨d', e1, h⟩ := h
    obtain ⟨l, vs, rfl, h1, r1⟩ := rx.lst_inv S.sub
    obtain ⟨v, h2, r2⟩ := atI_rep r1 e1
    exact .inl ⟨l, vs, i, v, rfl, ry.int_inv, SqL.of h1, h2, a.val S r2 h⟩
  · rename_i ds i
    obtain ⟨d', e1, h⟩ := h
    obtain ⟨l, vs, rfl, h1, r1⟩ := rx.tup_inv
    obtain ⟨v, h2, r2⟩ := atI_rep r1 e1
    exact .inr (.inl ⟨l, vs, i, v, rfl, ry.int_inv, sqT_mono S.sub h1, h2, a.val S r2 h⟩)
  · rename_i z i
    obtain ⟨h0, c, e1, h⟩ := h
    exact .inr (.inr ⟨z, i, c, rx.str_inv, ry.int_inv, h0, e1, a.val S (.str _) h⟩)
  · exact h.elim
theorem de_ix (ha : DE X ow B a ta) (hb : BE X ow B b tb) (hs : PlainIx b := by exact fun _ _ => rfl) : DE X ow B (.Subscript a b pos) (dOp dIx ta tb) := (pe_ix ix_seq ha hb hs).conv fun _ _ _ h => op_conv od_ix h
/-- a name's item: the name's value is looked at behind the index -/
def dIxN (i : Nat) (tb : DB) : DT := fun Γ k => match Γ[i]? with
  | some (some _) => tb Γ fun e Γ1 => match Γ1[i]? with
    | some (some ρ) => ρ.bor fun d => dIx d e fun ρ' => k ρ' Γ1
    | _ => False
  | _ => False
theorem de_ixN {i : Nat} {x : Str} {px : Pos} (ha : PE X (.Name x px) (tVar i)) (hb : BE X ow B b tb) (hs : PlainIx b := by exact fun _ _ => rfl) : DE X ow B (.Subscript (.Name x px) b pos) (dIxN i tb) := (pe_ix ix_seq ha hb hs).conv fun σ H Q ⟨Γ, F, w, S, k, q, hk⟩ => by
  unfold dIxN at q
  split at q
  · rename_i ρ0 e0
    obtain ⟨v, A, h1, r, _⟩ := S.slot i _ e0
    refine ⟨v, h1, Γ, F, w, S, _, q, fun d Γ1 F1 w1 H1 v1 q1 e1 S1 r1 => ?_⟩
    split at q1
    · rename_i ρ e2
      obtain ⟨v', A', h1', r', _⟩ := S1.slot i _ e2
      rw [h1] at h1'; cases h1'
      obtain ⟨d', q2, r2⟩ := r'.bor q1
      exact od_ix S1 r2 r1 q2 fun ρ F' w' H' v3 A3 k3 e3 S3 r3 t3 => hk ρ _ _ _ _ _ _ k3 (e1.trans e3) S3 r3 t3
    · exact q1.elim
  · exact q.elim

/-! ### slices -/
abbrev DO := Ge → (Option Int → Ge → Prop) → Prop
def tO (K : PySem.W.Frag) (ow : Ow) (B : Bs) (t : DO) : TO := fun σ H Q => ∃ Γ F w, Sim K ow B Γ F w σ H ∧ ∃ k : Option Int → Ge → Prop, t Γ k ∧
  ∀ o Γ' F' w' H', k o Γ' → Same F F' → Sim K ow B Γ' F' w' σ H' → Q o H'
theorem _root_.L2.PO.conv {e : Option Expr} {t t' : TO} (h : PO X e t) (c : ∀ σ H Q, t' σ H Q → t σ H Q) : PO X e t' := ⟨fun pins s σ H Q I q => h.run pins s σ H Q I (c σ H Q q)⟩
def dNoPart : DO := fun Γ k => k none Γ
def dPart (t : DB) : DO := fun Γ k => t Γ fun d Γ' => match d with
  | .int i => k (some i) Γ'
  | _ => False
theorem do_none : PO X none (tO X.K ow B dNoPart) := po_none.conv fun σ H Q ⟨Γ, F, w, S, k, q, hk⟩ => hk _ _ _ _ _ q (Same.refl F) S
theorem do_some {e : Expr} (h : BE X ow B e tb) : PO X (some e) (tO X.K ow B (dPart tb)) := (po_some h).conv fun σ H Q ⟨Γ, F, w, S, k, q, hk⟩ =>
  ⟨Γ, F, w, S, _, q, fun d Γ1 F1 w1 H1 v q1 e1 S1 r1 => by
    split at q1
    · rename_i i
      exact ⟨i, r1.int_inv, hk _ _ _ _ _ q1 e1 S1⟩
    · exact q1.elim⟩
def cutD (xs : List D) (lo hi : Option Int) : List D := (xs.drop (HT.sIx xs.length 0 lo)).take (HT.sIx xs.length xs.length hi - HT.sIx xs.length 0 lo)
theorem cut_rep {K : PySem.W.Frag} {F : Hp} {vs : List V} {ds : List D} (h : RepFs K F vs ds) (lo hi : Option Int) : RepFs K F (cutV vs lo hi) (cutD ds lo hi) := by
  unfold cutV cutD
  rw [h.length]
  exact (h.drop _).take _
def rSlAll (K : PySem.W.Frag) : V → Option Int → Option Int → Hp → VK → Prop := fun x lo hi H Q => rSlL K x lo hi H Q ∨ (rSlN K x lo hi H Q ∨ rSlS x lo hi H Q)
theorem sl_all : SlR X (rSlAll X.K) := sl_list.or (sl_tupN.or sl_str)
def dSl (ta : DT) (tl th : DO) : DT := fun Γ k => ta Γ fun x Γ1 => x.frz fun d => tl Γ1 fun lo Γ2 => th Γ2 fun hi Γ3 => match d with
  | .list ds => k (.lst (cutD ds lo hi)) Γ3
  | .tuple ds => k (.fro (.tuple (cutD ds lo hi))) Γ3
  | .str z => z.length ≤ sizeLine ∧ k (.fro (.str (cutS z lo hi))) Γ3
  | _ => False
theorem de_slice {lo hi : Option Expr} {p2 : Pos} {tl th : DO} (he : DE X ow B a ta) (hl : PO X lo (tO X.K ow B tl)) (hu : PO X hi (tO X.K ow B th)) : DE X ow B (.Subscript a (.Slice lo hi none p2) pos) (dSl ta tl th) :=
  (pe_slice sl_all he hl hu).conv fun σ H Q ⟨Γ, F, w, S, k, q, hk⟩ => by
  refine ⟨Γ, F, w, S, _, q, fun x Γ1 F1 w1 H1 v A h1 e1 S1 r1 t1 => ?_⟩
  obtain ⟨d, F1', h1', e1', S1', r1'⟩ := S1.frz r1 t1 h1
  refine ⟨Γ1, F1', w1, S1', _, h1', fun l Γ2 F2 w2 H2 q2 e2 S2 => ?_⟩
  refine ⟨Γ2, F2, w2, S2, _, q2, fun u Γ3 F3 w3 H3 q3 e3 S3 => ?_⟩
  have r3 := r1'.mono (e2.trans e3)
  have ee : Same F F3 := (e1.trans e1').trans (e2.trans e3)
  have af : Aft X.K ow B Γ3 F3 σ (fun ρ => k ρ Γ3) Q := fun ρ F' w' H' v3 A3 k3 e3 S3 r3 t3 => hk ρ _ _ _ _ _ _ k3 (ee.trans e3) S3 r3 t3
  split at q3
  · rename_i ds
    obtain ⟨a, vs, rfl, z1, z2⟩ := r3.lst_inv
    exact .inl ⟨a, vs, rfl, SqL.of (S3.sub _ _ z1), fun p hp => af.newL S3 (cut_rep z2 l u) q3 hp⟩
  · rename_i ds
    obtain ⟨a, vs, rfl, z1, z2⟩ := r3.tup_invN
    refine .inr (.inl ⟨a, vs, rfl, sqT_mono S3.sub z1.t, fun hw => ?_, fun _ p o hp ho => af.newT S3 (cut_rep z2 l u) q3 hp ho⟩)
    have : cutD ds l u = ds := by
      unfold cutD
      rw [← z2.length, hw.1, hw.2, List.drop_zero, Nat.sub_zero, z2.length, List.take_length]
    rw [this] at q3
    exact af.val S3 (.tup z1 z2) q3
  · rename_i z
    exact .inr (.inr ⟨z, r3.str_inv, q3.1, af.val S3 (.str _) q3.2⟩)
  · exact q3.elim

/-! ### argument lists that stand still; displays -/
abbrev DA := Ge → (List D → Ge → Prop) → Prop
def tA (K : PySem.W.Frag) (ow : Ow) (B : Bs) (t : DA) : TA := fun σ H Q => ∃ Γ F w, Sim K ow B Γ F w σ H ∧ ∃ k : List D → Ge → Prop, t Γ k ∧
  ∀ ds Γ' F' w' H' vs, k ds Γ' → Same F F' → Sim K ow B Γ' F' w' σ H' → RepFs K F' vs ds → Q vs H'
abbrev AE (X : Cx) (ow : Ow) (B : Bs) (es : List Expr) (t : DA) : Prop := PA X es (tA X.K ow B t)
def dNil : DA := fun Γ k => k [] Γ
def dCons (t : DT) (u : DA) : DA := fun Γ k => t Γ fun x Γ1 => x.frz fun d => u Γ1 fun ds Γ2 => k (d :: ds) Γ2
theorem da_nil : AE X ow B [] dNil := pa_nil.conv fun σ H Q ⟨Γ, F, w, S, k, q, hk⟩ => hk _ _ _ _ _ _ q (Same.refl F) S .nil
theorem da_cons {e : Expr} {es : List Expr} {t : DT} {u : DA} (ha : DE X ow B e t) (hr : AE X ow B es u) (hs : starEach (e :: es) X.env = (false, eval e X.env) :: starEach es X.env := by rfl) : AE X ow B (e :: es) (dCons t u) := (pa_cons ha hr hs).conv fun σ H Q ⟨Γ, F, w, S, k, q, hk⟩ => by
  refine ⟨Γ, F, w, S, _, q, fun x Γ1 F1 w1 H1 v A h1 e1 S1 r1 t1 => ?_⟩
  obtain ⟨d, F1', h1', e1', S1', r1'⟩ := S1.frz r1 t1 h1
  exact ⟨Γ1, F1', w1, S1', _, h1', fun ds Γ2 F2 w2 H2 vs q2 e2 S2 r2 => hk _ _ _ _ _ _ q2 ((e1.trans e1').trans e2) S2 (.cons (r1'.mono e2) r2)⟩
def dTup (t : DA) : DT := fun Γ k => t Γ fun ds Γ1 => ds.length ≤ 1000 ∧ k (.fro (.tuple ds)) Γ1
def dLst (t : DA) : DT := fun Γ k => t Γ fun ds Γ1 => ds.length ≤ 1000 ∧ k (.lst ds) Γ1
theorem line1000 {n : Nat} (h : n ≤ 1000) : n ≤ sizeLine := Nat.le_of_lt (small1000 h)
theorem de_tup {es : List Expr} {t : DA} {x1} (h : AE X ow B es t) : DE X ow B (.Tuple es x1 pos) (dTup t) := (pe_tupN h).conv fun σ H Q ⟨Γ, F, w, S, k, q, hk⟩ =>
  ⟨Γ, F, w, S, _, q, fun ds Γ1 F1 w1 H1 vs q1 e1 S1 r1 => ⟨by rw [r1.length]; exact line1000 q1.1, fun p o hp ho => Aft.newT (fun ρ F' w' H' v3 A3 k3 e3 S3 r3 t3 => hk ρ _ _ _ _ _ _ k3 (e1.trans e3) S3 r3 t3) S1 r1 q1.2 hp ho⟩⟩
theorem de_lst {es : List Expr} {t : DA} (h : AE X ow B es t) : DE X ow B (.List es pos) (dLst t) := (pe_lst h).conv fun σ H Q ⟨Γ, F, w, S, k, q, hk⟩ =>
  ⟨Γ, F, w, S, _, q, fun ds Γ1 F1 w1 H1 vs q1 e1 S1 r1 => ⟨by rw [r1.length]; exact line1000 q1.1, fun p hp => Aft.newL (fun ρ F' w' H' v3 A3 k3 e3 S3 r3 t3 => hk ρ _ _ _ _ _ _ k3 (e1.trans e3) S3 r3 t3) S1 r1 q1.2 hp⟩⟩

/-! ### built-ins of one argument -/
variable {x : Str} {p : Pos} {id T : String} {e : Expr}
theorem pa1_conv {K : PySem.W.Frag} {ow : Ow} {B : Bs} {r : List V → Hp → VK → Prop} {rd : D → (Rv → Prop) → Prop} (hd : UnD K (fun x H Q => r [x] H Q) rd) {σ : L2.St} {H : Hp} {Q : VK} (h : tD K ow B (dUn rd tb) σ H Q) : tCB r (tCons (tB K ow B tb) tNil) σ H Q := un_conv hd h
theorem de_callB {r : List V → Hp → VK → Prop} {rd : D → (Rv → Prop) → Prop} (hc : CallR X (.builtin id) r) (hd : UnD X.K (fun x H Q => r [x] H Q) rd) (hg : Gl X x) (hm : X.mg x = none) (hv : bootBuiltins x = some (.builtin id)) (ha : BE X ow B e tb) (hn : x ≠ "__name__" := by decide) (hdb : (x == ("__debug__" : Str)) = false := by decide)
    (he : starEach (e :: []) X.env = (false, eval e X.env) :: starEach [] X.env := by rfl) (hpl : (backTo pos (starEach [] X.env)).any (·.1) = false := by rfl) : DE X ow B (.Call (.Name x p) [e] [] pos) (dUn rd tb) :=
  (pe_callB hc hg hm hv (pa_cons ha pa_nil he) hn hdb he hpl).conv fun _ _ _ h => pa1_conv hd h
theorem de_callTy {r : List V → Hp → VK → Prop} {rd : D → (Rv → Prop) → Prop} (hc : CallR X (.type T) r) (hd : UnD X.K (fun x H Q => r [x] H Q) rd) (hg : Gl X x) (hm : X.mg x = none) (hv : bootBuiltins x = some (.type T)) (ha : BE X ow B e tb) (hn : x ≠ "__name__" := by decide) (hdb : (x == ("__debug__" : Str)) = false := by decide)
    (he : starEach (e :: []) X.env = (false, eval e X.env) :: starEach [] X.env := by rfl) (hpl : (backTo pos (starEach [] X.env)).any (·.1) = false := by rfl) : DE X ow B (.Call (.Name x p) [e] [] pos) (dUn rd tb) :=
  (pe_callTy hc hg hm hv (pa_cons ha pa_nil he) hn hdb he hpl).conv fun _ _ _ h => pa1_conv hd h
def dLen : D → (Rv → Prop) → Prop := fun d k => match d with
  | .list ds => k (.fro (.int (ds.length : Nat)))
  | .tuple ds => k (.fro (.int (ds.length : Nat)))
  | .str s => s.length ≤ sizeLine ∧ k (.fro (.int (s.length : Nat)))
  | _ => False
theorem ud_len {K : PySem.W.Frag} : UnD K (fun x H Q => ∃ x' n, [x] = [x'] ∧ LenV K x' H n ∧ Q (.int n) H) dLen := by
  intro ow B Γ F w σ H x d k Q S rx h a
  unfold dLen at h
  split at h
  · rename_i ds
    obtain ⟨l, vs, rfl, h1, r1⟩ := rx.lst_inv S.sub
    exact ⟨_, _, rfl, .inl ⟨vs, SqL.of h1, rfl⟩, by rw [r1.length]; exact a.val S (.int _) h⟩
  · rename_i ds
    obtain ⟨l, vs, rfl, h1, r1⟩ := rx.tup_inv
    exact ⟨_, _, rfl, .inr ⟨vs, sqT_mono S.sub h1, rfl⟩, by rw [r1.length]; exact a.val S (.int _) h⟩
  · rename_i s
    rw [rx.str_inv]
    exact ⟨_, _, rfl, ⟨h.1, rfl⟩, a.val S (.int _) h.2⟩
  · exact h.elim
/-- tuple(x) -/
def dTuple : D → (Rv → Prop) → Prop := fun d k => match d with
  | .list ds => k (.fro (.tuple ds))
  | .tuple ds => k (.fro (.tuple ds))
  | _ => False
theorem ud_tuple {K : PySem.W.Frag} : UnD K (fun x H Q => ∃ (p : Addr) (ys : List V), [x] = [.ref p] ∧ ((SqL K H p ys ∧ ∀ (l : Addr) (o : Obj), H l = none → o.dict = none → Q (.ref l) (upd H l (.frz o (.tup ys)))) ∨ (SqT K H p ys ∧ Q (.ref p) H))) dTuple := by
  intro ow B Γ F w σ H x d k Q S rx h a
  unfold dTuple at h
  split at h
  · rename_i ds
    obtain ⟨l, vs, rfl, h1, r1⟩ := rx.lst_inv S.sub
    exact ⟨l, vs, rfl, .inl ⟨SqL.of h1, fun p o hp ho => a.newT S r1 h hp ho⟩⟩
  · rename_i ds
    obtain ⟨l, vs, rfl, h1, r1⟩ := rx.tup_invN
    exact ⟨l, vs, rfl, .inr ⟨sqT_mono S.sub h1.t, a.val S (.tup h1 r1) h⟩⟩
  · exact h.elim
/-- list(x) -/
def dList : D → (Rv → Prop) → Prop := fun d k => match d with
  | .list ds => k (.lst ds)
  | .tuple ds => k (.lst ds)
  | _ => False
theorem ud_list {K : PySem.W.Frag} : UnD K (fun x H Q => ∃ p ys, [x] = [.ref p] ∧ (SqL K H p ys ∨ SqT K H p ys) ∧ ∀ l, H l = none → Q (.ref l) (upd H l (.lst ys))) dList := by
  intro ow B Γ F w σ H x d k Q S rx h a
  unfold dList at h
  split at h
  · rename_i ds
    obtain ⟨l, vs, rfl, h1, r1⟩ := rx.lst_inv S.sub
    exact ⟨l, vs, rfl, .inl (SqL.of h1), fun p hp => a.newL S r1 h hp⟩
  · rename_i ds
    obtain ⟨l, vs, rfl, h1, r1⟩ := rx.tup_inv
    exact ⟨l, vs, rfl, .inr (sqT_mono S.sub h1), fun p hp => a.newL S r1 h hp⟩
  · exact h.elim
/-- int(x), of an int or a bool -/
def dInt : D → (Rv → Prop) → Prop := fun d k => match d with
  | .int i => k (.fro (.int i))
  | .bool b => k (.fro (.int (if b then 1 else 0)))
  | _ => False
theorem ud_int {K : PySem.W.Frag} : UnD K (fun x H Q => (∃ i, [x] = [.int i] ∧ Q (.int i) H) ∨ ∃ k, [x] = [.bl k] ∧ Q (.int (if k then 1 else 0)) H) dInt := by
  intro ow B Γ F w σ H x d k Q S rx h a
  unfold dInt at h
  split at h
  · rename_i i
    exact .inl ⟨i, by rw [rx.int_inv], a.val S (.int _) h⟩
  · rename_i b
    exact .inr ⟨b, by rw [rx.bl_inv], a.val S (.int _) h⟩
  · exact h.elim
def dAbs : D → (Rv → Prop) → Prop := fun d k => match d with
  | .int i => k (.fro (.int (if i < 0 then -i else i)))
  | _ => False
theorem ud_abs {K : PySem.W.Frag} : UnD K (fun x H Q => ∃ i, [x] = [.int i] ∧ Q (.int (if i < 0 then -i else i)) H) dAbs := by
  intro ow B Γ F w σ H x d k Q S rx h a
  unfold dAbs at h
  split at h
  · rename_i i
    exact ⟨i, by rw [rx.int_inv], a.val S (.int _) h⟩
  · exact h.elim
/-- all, any of a list of bools -/
def bools : List D → Option (List Bool)
  | [] => some []
  | .bool b :: ds => (bools ds).map (b :: ·)
  | _ :: _ => none
theorem bools_map : ∀ {ds : List D} {bs : List Bool}, bools ds = some bs → ds = bs.map .bool
  | [], bs, h => by cases h; rfl
  | .bool b :: ds, bs, h => by
    unfold bools at h
    cases q : bools ds with
    | none => rw [q] at h; cases h
    | some cs => rw [q] at h; cases h; rw [bools_map q]; rfl
  | .none :: _, _, h => by cases h
  | .int _ :: _, _, h => by cases h
  | .str _ :: _, _, h => by cases h
  | .list _ :: _, _, h => by cases h
  | .tuple _ :: _, _, h => by cases h
  | .dict _ :: _, _, h => by cases h
theorem bools_of : ∀ bs : List Bool, bools (bs.map .bool) = some bs
  | [] => rfl
  | b :: bs => by show (bools (bs.map .bool)).map (b :: ·) = _; rw [bools_of bs]; rfl
def dAll : D → (Rv → Prop) → Prop := fun d k => match d with
  | .list ds => ∃ bs, bools ds = some bs ∧ k (.fro (.bool (bs.all _root_.id)))
  | _ => False
def dAny : D → (Rv → Prop) → Prop := fun d k => match d with
  | .list ds => ∃ bs, bools ds = some bs ∧ k (.fro (.bool (bs.any _root_.id)))
  | _ => False
theorem ud_all {K : PySem.W.Frag} : UnD K (fun x H Q => rAll K [x] H Q) dAll := by
  intro ow B Γ F w σ H x d k Q S rx h a
  unfold dAll at h
  split at h
  · rename_i ds
    obtain ⟨bs, e1, h⟩ := h
    obtain ⟨l, vs, rfl, h1, r1⟩ := rx.lst_inv S.sub
    rw [bools_map e1] at r1
    rw [r1.bls_inv] at h1
    exact ⟨l, bs, rfl, SqL.of h1, a.val S (.bl _) h⟩
  · exact h.elim
theorem ud_any {K : PySem.W.Frag} : UnD K (fun x H Q => rAny K [x] H Q) dAny := by
  intro ow B Γ F w σ H x d k Q S rx h a
  unfold dAny at h
  split at h
  · rename_i ds
    obtain ⟨bs, e1, h⟩ := h
    obtain ⟨l, vs, rfl, h1, r1⟩ := rx.lst_inv S.sub
    rw [bools_map e1] at r1
    rw [r1.bls_inv] at h1
    exact ⟨l, bs, rfl, SqL.of h1, a.val S (.bl _) h⟩
  · exact h.elim
/-! ### of two arguments -/
theorem de_callB2 {r : List V → Hp → VK → Prop} {rd : D → D → (Rv → Prop) → Prop} {e2 : Expr} (hc : CallR X (.builtin id) r) (hd : OpD X.K (fun x y H Q => r [x, y] H Q) rd) (hg : Gl X x) (hm : X.mg x = none) (hv : bootBuiltins x = some (.builtin id)) (ha : DE X ow B e ta) (hb : BE X ow B e2 tb) (hn : x ≠ "__name__" := by decide) (hdb : (x == ("__debug__" : Str)) = false := by decide)
    (he : starEach (e :: [e2]) X.env = (false, eval e X.env) :: starEach [e2] X.env := by rfl) (he2 : starEach (e2 :: []) X.env = (false, eval e2 X.env) :: starEach [] X.env := by rfl) (hpl : (backTo pos (starEach [e2] X.env)).any (·.1) = false := by rfl) : DE X ow B (.Call (.Name x p) [e, e2] [] pos) (dOp rd ta tb) :=
  (pe_callB hc hg hm hv (pa_cons ha (pa_cons hb pa_nil he2) he) hn hdb he hpl).conv fun _ _ _ h => op_conv hd h
theorem od_max {K : PySem.W.Frag} : OpD K (fun x y H Q => ∃ i j, [x, y] = [.int i, .int j] ∧ Q (.int (if j > i then j else i)) H) (dI0 fun i j => if j > i then j else i) := by
  intro ow B Γ F w σ H x y d e k Q S rx ry h a
  unfold dI0 at h
  split at h
  · rename_i i j
    exact ⟨i, j, by rw [rx.int_inv, ry.int_inv], a.val S (.int _) h⟩
  · exact h.elim
theorem od_min {K : PySem.W.Frag} : OpD K (fun x y H Q => ∃ i j, [x, y] = [.int i, .int j] ∧ Q (.int (if j < i then j else i)) H) (dI0 fun i j => if j < i then j else i) := by
  intro ow B Γ F w σ H x y d e k Q S rx ry h a
  unfold dI0 at h
  split at h
  · rename_i i j
    exact ⟨i, j, by rw [rx.int_inv, ry.int_inv], a.val S (.int _) h⟩
  · exact h.elim
end
end Dn
set_option Elab.async false
set_option linter.all false
set_option maxRecDepth 100000
set_option maxHeartbeats 2000000
/-! # Dn: statements, loops, comprehensions over plain data -/
namespace Dn
open PySem PySem.Spec PyProof.Rows L2

/-! ### stores -/
section
variable {K : PySem.W.Frag} {ow : Ow} {B : Bs} {Γ Γ' : Ge} {F F' : Hp} {w w' : Addr → Nat} {σ : L2.St} {H H' : Hp} {v : V} {ρ : Rv} {A : List Addr}
theorem ow_ne {i j : Nat} (hi : ow.l.contains i = false) (hj : j ∈ ow.l) : i ≠ j := by
  rintro rfl
  rw [List.contains_iff_mem.mpr hj] at hi
  cases hi
theorem Sim.store (S : Sim K ow B Γ F w σ H) (r : RepR K F H v ρ A) (t : Tmp B w F A) {i : Nat} (hi : ow.l.contains i = false) (hl : i < σ.length) : ∃ w', Sim K ow B (Γ.set i (some ρ)) F w' (σ.set i (some v)) H := by
  refine ⟨fun b => if b ∈ A then i + 1 else w b, S.sub, S.ff, S.new, S.keep, by rw [List.length_set, List.length_set]; exact S.len, fun j ρ' h => ?_, fun j hj => ?_, S.al, S.tab⟩
  · by_cases hij : i = j
    · subst hij
      rw [List.getElem?_set_self (by rw [S.len]; exact hl)] at h
      cases h
      exact ⟨v, A, List.getElem?_set_self hl, r, fun a ha => ⟨if_pos ha, (t a ha).2.1, .inr (t a ha).2.2⟩⟩
    · rw [List.getElem?_set_ne hij] at h
      obtain ⟨v', A', z1, z2, z3⟩ := S.slot j _ h
      refine ⟨v', A', by rw [List.getElem?_set_ne hij]; exact z1, z2, fun a ha => ?_⟩
      have : a ∉ A := fun ha' => by
        have q1 := (t a ha').1
        have q2 := (z3 a ha).1
        omega
      rw [if_neg this]
      exact z3 a ha
  · have hne := ow_ne hi hj
    obtain ⟨ρ', v', A', z1, z2, z3, z4, z5, z6⟩ := S.own j hj
    refine ⟨ρ', v', A', by rw [List.getElem?_set_ne hne]; exact z1, z2, z3, by rw [List.getElem?_set_ne hne]; exact z4, z5, fun a ha => ?_⟩
    have : a ∉ A := fun ha' => by
      have q1 := (t a ha').1
      have q2 := (z6 a ha).1
      omega
    rw [if_neg this]
    exact z6 a ha
/-- the slot i's own object at a is changed -/
theorem Sim.mut (S : Sim K ow B Γ F w σ H) {i : Nat} {ρ ρ' : Rv} {a : Addr} {o : HO} (e : Γ[i]? = some (some ρ)) (hv : σ[i]? = some (some v)) (r : RepR K F H v ρ A) (r' : RepR K F (upd H a o) v ρ' A) (ha : a ∈ A) (hA : ∀ b ∈ A, w b = i + 1 ∧ F b = none ∧ (B.M b ∨ B.H0 b = none)) :
    Sim K ow B (Γ.set i (some ρ')) F w σ (upd H a o) := by
  have hi : i < Γ.length := getElem?_len e
  obtain ⟨wa, fa, za⟩ := hA a ha
  refine ⟨fun b u h => ?_, S.ff, S.new, fun b u h1 h2 => ?_, by rw [List.length_set]; exact S.len, fun j ρ2 h => ?_, fun j hj => ?_, fun b hb => ?_, fun b hb => ?_⟩
  · rw [upd_ne (fun z => by rw [z, fa] at h; cases h)]
    exact S.sub _ _ h
  · rw [upd_ne (fun z => by
      rw [z] at h1 h2
      rcases za with z1 | z1
      · exact h2 z1
      · rw [z1] at h1; cases h1)]
    exact S.keep _ _ h1 h2
  · by_cases hij : i = j
    · subst hij
      rw [List.getElem?_set_self hi] at h
      cases h
      exact ⟨v, A, hv, r', hA⟩
    · rw [List.getElem?_set_ne hij] at h
      obtain ⟨v', A', z1, z2, z3⟩ := S.slot j _ h
      refine ⟨v', A', z1, z2.mono (Same.refl F) fun b hb => upd_ne fun q => ?_, z3⟩
      have q2 := (z3 b hb).1
      rw [q, wa] at q2
      omega
  · obtain ⟨ρ2, v', A', z1, z2, z3, z4, z5, z6⟩ := S.own j hj
    by_cases hij : i = j
    · subst hij
      rw [hv] at z4; cases z4
      rw [e] at z1; cases z1
      refine ⟨ρ', v, A', List.getElem?_set_self hi, z2, z3, hv, ?_, z6⟩
      have : A = A' := by
        cases ρ with
        | fro d => rw [r.2, z5.2]
        | lst ds => obtain ⟨a1, _, e1, _, _, h1⟩ := r; obtain ⟨a2, _, e2, _, _, h2⟩ := z5; rw [e1] at e2; cases e2; rw [h1, h2]
        | dct ds => obtain ⟨a1, _, e1, _, _, h1⟩ := r; obtain ⟨a2, _, e2, _, _, h2⟩ := z5; rw [e1] at e2; cases e2; rw [h1, h2]
        | dtt ds => obtain ⟨a1, _, e1, _, _, h1⟩ := r; obtain ⟨a2, _, e2, _, _, h2⟩ := z5; rw [e1] at e2; cases e2; rw [h1, h2]
        | st cs sd => obtain ⟨a1, b1, e1, g1, _, _, h1⟩ := r; obtain ⟨a2, b2, e2, g2, _, _, h2⟩ := z5; rw [e1] at e2; cases e2; rw [g1] at g2; cases g2; rw [h1, h2]
        | scr ns => obtain ⟨_, _, _, h1⟩ := r; obtain ⟨_, _, _, h2⟩ := z5; rw [h1, h2]
      rw [← this]; exact r'
    · refine ⟨ρ2, v', A', by rw [List.getElem?_set_ne hij]; exact z1, z2, z3, z4, z5.mono (Same.refl F) fun b hb => upd_ne fun q => ?_, z6⟩
      have q2 := (z6 b hb).1
      rw [q, wa] at q2
      omega
  · by_cases hba : b = a
    · rw [hba]; exact ⟨_, upd_same⟩
    · rw [upd_ne hba]; exact S.al b hb
  · obtain ⟨t1, t2, t3, ps, t4, t5⟩ := S.tab b hb
    refine ⟨t1, t2, t3, ps, ?_, t5⟩
    rw [upd_ne (fun z => r.notab ha ps (by rw [← z]; exact t4))]
    exact t4
end

/-! ### blocks and small statements -/
structure DEnds where
  nx : Ge → Prop
  rt : Rv → Ge → Prop
  bk : Ge → Prop := fun _ => False
  ct : Ge → Prop := fun _ => False
abbrev DS := DEnds → Ge → Prop
/-- what the ends over plain data mean -/
structure EndsOk (K : PySem.W.Frag) (ow : Ow) (B : Bs) (F : Hp) (D : DEnds) (E : Ends) : Prop where
  nx : ∀ Γ' F' w' σ' H', D.nx Γ' → Same F F' → Sim K ow B Γ' F' w' σ' H' → E.nx σ' H'
  rt : ∀ ρ Γ' F' w' σ' H' v A, D.rt ρ Γ' → Same F F' → Sim K ow B Γ' F' w' σ' H' → RepR K F' H' v ρ A → Tmp B w' F' A → E.rt v H'
  bk : ∀ Γ' F' w' σ' H', D.bk Γ' → Same F F' → Sim K ow B Γ' F' w' σ' H' → E.bk σ' H'
  ct : ∀ Γ' F' w' σ' H', D.ct Γ' → Same F F' → Sim K ow B Γ' F' w' σ' H' → E.ct σ' H'
theorem EndsOk.mono {K : PySem.W.Frag} {ow : Ow} {B : Bs} {F F' : Hp} {D : DEnds} {E : Ends} (h : EndsOk K ow B F D E) (e : Same F F') : EndsOk K ow B F' D E :=
  ⟨fun Γ' F' w' σ' H' a b c => h.nx Γ' F' w' σ' H' a (e.trans b) c, fun ρ Γ' F' w' σ' H' v A a b c d t => h.rt ρ Γ' F' w' σ' H' v A a (e.trans b) c d t, fun Γ' F' w' σ' H' a b c => h.bk Γ' F' w' σ' H' a (e.trans b) c, fun Γ' F' w' σ' H' a b c => h.ct Γ' F' w' σ' H' a (e.trans b) c⟩
def tS (K : PySem.W.Frag) (ow : Ow) (B : Bs) (t : DS) : TS := fun E σ H => ∃ Γ F w, Sim K ow B Γ F w σ H ∧ ∃ D : DEnds, t D Γ ∧ EndsOk K ow B F D E
abbrev SE (X : Cx) (ow : Ow) (B : Bs) (st : Stmt) (t : DS) : Prop := PS X st (tS X.K ow B t)
abbrev SSE (X : Cx) (ow : Ow) (B : Bs) (st : List Stmt) (t : DS) : Prop := PSs X st (tS X.K ow B t)
section
variable {X : Cx} {ow : Ow} {B : Bs} {st : Stmt} {rest : List Stmt} {t u : DS} {e : Expr} {te : DT} {pos : Pos}
def dNext : DS := fun D Γ => D.nx Γ
def dSeq (t u : DS) : DS := fun D Γ => t { D with nx := u D } Γ
theorem ds_nil : SSE X ow B [] dNext := pss_nil.conv fun E σ H ⟨Γ, F, w, S, D, q, ok⟩ => ok.nx _ _ _ _ _ q (Same.refl F) S
theorem ds_cons (h1 : SE X ow B st t) (h2 : SSE X ow B rest u) : SSE X ow B (st :: rest) (dSeq t u) := (pss_cons h1 h2).conv fun E σ H ⟨Γ, F, w, S, D, q, ok⟩ =>
  ⟨Γ, F, w, S, { D with nx := u D }, q, fun Γ' F' w' σ' H' h e1 S1 => ⟨Γ', F', w', S1, D, h, ok.mono e1⟩, ok.rt, ok.bk, ok.ct⟩
theorem ds_one (h1 : SE X ow B st t) : SSE X ow B [st] t := pss_one h1
theorem ds_pass : SE X ow B (.Pass pos) dNext := ps_pass.conv fun E σ H ⟨Γ, F, w, S, D, q, ok⟩ => ok.nx _ _ _ _ _ q (Same.refl F) S
def dBreak : DS := fun D Γ => D.bk Γ
def dCont : DS := fun D Γ => D.ct Γ
theorem ds_break : SE X ow B (.Break pos) dBreak := ps_break.conv fun E σ H ⟨Γ, F, w, S, D, q, ok⟩ => ok.bk _ _ _ _ _ q (Same.refl F) S
theorem ds_continue : SE X ow B (.Continue pos) dCont := ps_continue.conv fun E σ H ⟨Γ, F, w, S, D, q, ok⟩ => ok.ct _ _ _ _ _ q (Same.refl F) S
def dDrop (t : DT) : DS := fun D Γ => t Γ fun _ Γ1 => D.nx Γ1
theorem ds_expr (he : DE X ow B e te) (hs : swapsWith e none pos.line X.env = pure false := by rfl) : SE X ow B (.Expr e pos) (dDrop te) := (ps_expr he hs).conv fun E σ H ⟨Γ, F, w, S, D, q, ok⟩ =>
  ⟨Γ, F, w, S, _, q, fun ρ Γ' F' w' H' v A h e1 S1 r t => ok.nx _ _ _ _ _ h e1 S1⟩
def dRet (t : DT) : DS := fun D Γ => t Γ fun ρ Γ1 => D.rt ρ Γ1
theorem ds_ret (he : DE X ow B e te) : SE X ow B (.Return (some e) pos) (dRet te) := (ps_ret he).conv fun E σ H ⟨Γ, F, w, S, D, q, ok⟩ =>
  ⟨Γ, F, w, S, _, q, fun ρ Γ' F' w' H' v A h e1 S1 r t => ok.rt _ _ _ _ _ _ _ _ h e1 S1 r t⟩
def dRetN : DS := fun D Γ => D.rt (.fro .none) Γ
theorem ds_retN : SE X ow B (.Return none pos) dRetN := ps_retN.conv fun E σ H ⟨Γ, F, w, S, D, q, ok⟩ => ok.rt _ _ _ _ _ _ _ [] q (Same.refl F) S ⟨.non, rfl⟩ Tmp.nil
def dIfS (c : DTT) (t u : DS) : DS := fun D Γ => c Γ fun b Γ1 => bP b (t D Γ1) (u D Γ1)
theorem ds_if {c : Expr} {a b : List Stmt} {tc : DTT} (hc : TTe X ow B c tc) (ha : SSE X ow B a t) (hb : SSE X ow B b u) : SE X ow B (.If c a b pos) (dIfS tc t u) := (ps_if hc ha hb).conv fun E σ H ⟨Γ, F, w, S, D, q, ok⟩ =>
  ⟨Γ, F, w, S, _, q, fun b Γ1 F1 w1 H1 h1 e1 S1 => by
    cases b with
    | true => rw [if_pos rfl]; exact ⟨Γ1, F1, w1, S1, D, h1, ok.mono e1⟩
    | false => rw [if_neg Bool.false_ne_true]; exact ⟨Γ1, F1, w1, S1, D, h1, ok.mono e1⟩⟩
/-- code that is never come to -/
def dNever : DS := fun _ _ => False
theorem ds_never : SE X ow B st dNever := ps_never.conv fun E σ H ⟨Γ, F, w, S, D, q, ok⟩ => q
theorem dss_never {sts : List Stmt} : SSE X ow B sts dNever := pss_never.conv fun E σ H ⟨Γ, F, w, S, D, q, ok⟩ => q

/-! ### targets -/
abbrev DG := Rv → Ge → (Ge → Prop) → Prop
abbrev DGs := List D → Ge → (Ge → Prop) → Prop
/-- σ' is σ but for the slots in sl -/
def But (sl : List Nat) (σ σ' : L2.St) : Prop := σ'.length = σ.length ∧ ∀ j, j ∉ sl → σ'[j]? = σ[j]?
theorem But.refl (sl : List Nat) (σ : L2.St) : But sl σ σ := ⟨rfl, fun _ _ => rfl⟩
theorem But.trans {sl sl' : List Nat} {σ σ' σ2 : L2.St} (h : But sl σ σ') (g : But sl' σ' σ2) : But (sl ++ sl') σ σ2 :=
  ⟨g.1.trans h.1, fun j hj => (g.2 j fun z => hj (List.mem_append_right _ z)).trans (h.2 j fun z => hj (List.mem_append_left _ z))⟩
def tG (K : PySem.W.Frag) (ow : Ow) (B : Bs) (sl : List Nat) (g : DG) : TG := fun v σ H Q => ∃ Γ F w ρ A, Sim K ow B Γ F w σ H ∧ RepR K F H v ρ A ∧ Tmp B w F A ∧ ∃ k : Ge → Prop, g ρ Γ k ∧
  ∀ Γ' F' w' σ' H', k Γ' → Same F F' → Sim K ow B Γ' F' w' σ' H' → But sl σ σ' → Q σ' H'
def tGs (K : PySem.W.Frag) (ow : Ow) (B : Bs) (sl : List Nat) (g : DGs) : TGs := fun vs σ H Q => ∃ Γ F w ds, Sim K ow B Γ F w σ H ∧ RepFs K F vs ds ∧ ∃ k : Ge → Prop, g ds Γ k ∧
  ∀ Γ' F' w' σ' H', k Γ' → Same F F' → Sim K ow B Γ' F' w' σ' H' → But sl σ σ' → Q σ' H'
theorem _root_.L2.PG.conv {e : Expr} {t t' : TG} (h : PG X e t) (c : ∀ v σ H Q, t' v σ H Q → t v σ H Q) : PG X e t' := ⟨fun pins s σ H v u Q I r q => h.run pins s σ H v u Q I r (c v σ H Q q)⟩
theorem _root_.L2.PGs.conv {e : List Expr} {t t' : TGs} (h : PGs X e t) (c : ∀ v σ H Q, t' v σ H Q → t v σ H Q) : PGs X e t' := ⟨fun pins s σ H v u Q I r q => h.run pins s σ H v u Q I r (c v σ H Q q)⟩
abbrev GE (X : Cx) (ow : Ow) (B : Bs) (e : Expr) (sl : List Nat) (g : DG) : Prop := PG X e (tG X.K ow B sl g)
abbrev GsE (X : Cx) (ow : Ow) (B : Bs) (es : List Expr) (sl : List Nat) (g : DGs) : Prop := PGs X es (tGs X.K ow B sl g)
def dgName (i : Nat) : DG := fun ρ Γ k => i < Γ.length ∧ k (Γ.set i (some ρ))
theorem but_set {σ : L2.St} {i : Nat} {v : Option V} : But [i] σ (σ.set i v) := ⟨by rw [List.length_set], fun j hj => by rw [List.getElem?_set_ne (fun z => hj (by simp [z]))]⟩
theorem dg_of {i : Nat} {e : Expr} (h : PG X e (gName i)) (ho : ow.l.contains i = false := by rfl) : GE X ow B e [i] (dgName i) := h.conv fun v σ H Q ⟨Γ, F, w, ρ, A, S, r, t, k, q, hk⟩ => by
  obtain ⟨w', S'⟩ := S.store r t ho (by rw [← S.len]; exact q.1)
  exact hk _ _ _ _ _ q.2 (Same.refl F) S' but_set
theorem dg_name {i : Nat} {x : Str} {pos : Pos} (hN : X.N.Nodup) (hi : X.N[i]? = some x) (hx : Loc X.env.scope x) (ho : ow.l.contains i = false := by rfl) (hf : X.fn x = true ∨ X.env.scope.names.lookup x = some .local := by first | exact .inl rfl | exact .inr rfl | assumption) : GE X ow B (.Name x pos) [i] (dgName i) := dg_of (pg_name hN hi hx hf) ho
def dgNil : DGs := fun ds Γ k => match ds with
  | [] => k Γ
  | _ => False
def dgCons (g : DG) (gs : DGs) : DGs := fun ds Γ k => match ds with
  | d :: ds => g (.fro d) Γ fun Γ1 => gs ds Γ1 k
  | [] => False
theorem dgs_nil : GsE X ow B [] [] dgNil := pgs_nil.conv fun vs σ H Q ⟨Γ, F, w, ds, S, r, k, q, hk⟩ => by
  cases ds with
  | nil => cases r; exact ⟨rfl, hk _ _ _ _ _ q (Same.refl F) S (But.refl _ _)⟩
  | cons _ _ => exact q.elim
theorem dgs_cons {e : Expr} {es : List Expr} {sl sl' : List Nat} {g : DG} {gs : DGs} (h1 : GE X ow B e sl g) (h2 : GsE X ow B es sl' gs) (hs : (assignEach (e :: es) X.env).map (·.2) = assign e X.env :: (assignEach es X.env).map (·.2) := by rfl) : GsE X ow B (e :: es) (sl ++ sl') (dgCons g gs) :=
  (pgs_cons h1 h2 hs).conv fun vs σ H Q ⟨Γ, F, w, ds, S, r, k, q, hk⟩ => by
  cases ds with
  | nil => exact q.elim
  | cons d ds =>
    cases r with
    | cons r rs =>
      refine ⟨_, _, rfl, Γ, F, w, .fro d, [], S, ⟨r, rfl⟩, Tmp.nil, _, q, fun Γ1 F1 w1 σ1 H1 h1 e1 S1 b1 => ?_⟩
      exact ⟨Γ1, F1, w1, ds, S1, rs.mono e1, k, h1, fun Γ2 F2 w2 σ2 H2 h2 e2 S2 b2 => hk _ _ _ _ _ h2 (e1.trans e2) S2 (b1.trans b2)⟩
def dgTup (n : Nat) (gs : DGs) : DG := fun ρ Γ k => match ρ with
  | .fro (.tuple ds) => ds.length = n ∧ gs ds Γ k
  | _ => False
theorem dg_tup {es : List Expr} {j : Nat} {sl : List Nat} {gs : DGs} {n : Nat} (hc : X.calm = true) (h : GsE X ow B es sl gs) (hn : (assignEach es X.env).length = n := by rfl) (hst : (assignEach es X.env).findIdx? (·.1) = none := by rfl) : GE X ow B (.Tuple es j pos) sl (dgTup n gs) :=
  (pg_tup hc h hn hst).conv fun v σ H Q ⟨Γ, F, w, ρ, A, S, r, t, k, q, hk⟩ => by
  unfold dgTup at q
  split at q
  · rename_i ds
    obtain ⟨a, vs, rfl, z1, z2⟩ := r.1.tup_inv
    exact ⟨a, vs, rfl, sqT_mono S.sub z1, by rw [z2.length]; exact q.1, Γ, F, w, ds, S, z2, k, q.2, hk⟩
  · exact q.elim
/-- from a list -/
def dgLst (n : Nat) (gs : DGs) : DG := fun ρ Γ k => match ρ with
  | .fro (.list ds) => ds.length = n ∧ gs ds Γ k
  | _ => False
theorem dg_lst {es : List Expr} {j : Nat} {sl : List Nat} {gs : DGs} {n : Nat} (hc : X.calm = true) (h : GsE X ow B es sl gs) (hn : (assignEach es X.env).length = n := by rfl) (hst : (assignEach es X.env).findIdx? (·.1) = none := by rfl) : GE X ow B (.Tuple es j pos) sl (dgLst n gs) :=
  (pg_unl hc h hn hst).conv fun v σ H Q ⟨Γ, F, w, ρ, A, S, r, t, k, q, hk⟩ => by
  unfold dgLst at q
  split at q
  · rename_i ds
    obtain ⟨a, vs, rfl, z1, z2⟩ := r.1.lst_inv
    exact ⟨a, vs, rfl, SqL.of (S.sub _ _ z1), by rw [z2.length]; exact q.1, Γ, F, w, ds, S, z2, k, q.2, hk⟩
  · exact q.elim

/-! ### assignments -/
def dSet (i : Nat) (t : DT) : DS := fun D Γ => t Γ fun ρ Γ1 => i < Γ1.length ∧ D.nx (Γ1.set i (some ρ))
theorem set_conv {K : PySem.W.Frag} {i : Nat} (ho : ow.l.contains i = false) {E : Ends} {σ : L2.St} {H : Hp} (h : tS K ow B (dSet i te) E σ H) : tAsg (tD K ow B te) (gName i) E σ H := by
  obtain ⟨Γ, F, w, S, D, q, ok⟩ := h
  refine ⟨Γ, F, w, S, _, q, fun ρ Γ' F' w' H' v A h e1 S1 r t => ?_⟩
  obtain ⟨w2, S2⟩ := S1.store r t ho (by rw [← S1.len]; exact h.1)
  exact ok.nx _ _ _ _ _ h.2 e1 S2
theorem ds_set {i : Nat} {x : Str} {pos' : Pos} (hN : X.N.Nodup) (hi : X.N[i]? = some x) (hx : Loc X.env.scope x) (he : DE X ow B e te) (ho : ow.l.contains i = false := by rfl) (hs : swapsWith e (some (.Name x pos')) pos.line X.env = pure false := by rfl) (hf : X.fn x = true ∨ X.env.scope.names.lookup x = some .local := by first | exact .inl rfl | exact .inr rfl | assumption) :
    SE X ow B (.Assign [.Name x pos'] e pos) (dSet i te) := (ps_set hN hi hx he hs hf).conv fun E σ H h => set_conv ho h
/-- a tuple of names = e -/
def dAsg (te : DT) (g : DG) : DS := fun D Γ => te Γ fun ρ Γ1 => g ρ Γ1 D.nx
theorem ds_asg {tg : Expr} {sl : List Nat} {g : DG} (he : DE X ow B e te) (hg : GE X ow B tg sl g) (hs : swapsWithSole [tg] e pos.line X.env = pure false := by rfl) (hw : swappedStores [tg] e X.env = pure none := by rfl) (h1 : (assignEach [tg] X.env).map (·.2) = [assign tg X.env] := by rfl) :
    SE X ow B (.Assign [tg] e pos) (dAsg te g) := (ps_asg he hg hs hw h1).conv fun E σ H ⟨Γ, F, w, S, D, q, ok⟩ =>
  ⟨Γ, F, w, S, _, q, fun ρ Γ' F' w' H' v A h e1 S1 r t => ⟨Γ', F', w', ρ, A, S1, r, t, _, h, fun Γ2 F2 w2 σ2 H2 h2 e2 S2 _ => ok.nx _ _ _ _ _ h2 (e1.trans e2) S2⟩⟩
/-- x, y = a, b -/
def dPar (i j : Nat) (ta : DA) : DS := fun D Γ => ta Γ fun ds Γ1 => match ds with
  | [d, e] => (i < Γ1.length ∧ j < Γ1.length) ∧ D.nx ((Γ1.set i (some (.fro d))).set j (some (.fro e)))
  | _ => False
theorem ds_par {i j : Nat} {x y : Str} {a b : Expr} {ta : DA} {px py pt : Pos} {kt k2 pt2} (hc : X.calm = true) (hN : X.N.Nodup) (hi : X.N[i]? = some x) (hj : X.N[j]? = some y) (hij : i ≠ j)
    (hx : X.env.scope.names.lookup x = some .local) (hy : X.env.scope.names.lookup y = some .local) (ha : AE X ow B [a, b] ta)
    (hw : swappedStores [.Tuple [.Name x px, .Name y py] kt pt] (.Tuple [a, b] k2 pt2) X.env = pure (some [x, y]))
    (ho : ow.l.contains i = false := by rfl) (ho2 : ow.l.contains j = false := by rfl)
    (hs : swapsWithSole [.Tuple [.Name x px, .Name y py] kt pt] (.Tuple [a, b] k2 pt2) pos.line X.env = pure false := by rfl) :
    SE X ow B (.Assign [.Tuple [.Name x px, .Name y py] kt pt] (.Tuple [a, b] k2 pt2) pos) (dPar i j ta) := (ps_par hc hN hi hj hij hx hy ha hw hs).conv fun E σ H ⟨Γ, F, w, S, D, q, ok⟩ =>
  ⟨Γ, F, w, S, _, q, fun ds Γ' F' w' H' vs h e1 S1 r => by
    split at h
    · rename_i d e'
      cases r with
      | cons r1 r =>
        cases r with
        | cons r2 r =>
          cases r
          obtain ⟨w2, S2⟩ := S1.store (i := i) (A := []) (ρ := .fro d) ⟨r1, rfl⟩ Tmp.nil ho (by rw [← S1.len]; exact h.1.1)
          obtain ⟨w3, S3⟩ := S2.store (i := j) (A := []) (ρ := .fro e') ⟨r2, rfl⟩ Tmp.nil ho2 (by rw [List.length_set, ← S1.len]; exact h.1.2)
          exact ⟨_, _, rfl, ok.nx _ _ _ _ _ h.2 e1 S3⟩
    · exact h.elim⟩
def dPar3 (i j l : Nat) (ta : DA) : DS := fun D Γ => ta Γ fun ds Γ1 => match ds with
  | [d, e, f] => (i < Γ1.length ∧ j < Γ1.length ∧ l < Γ1.length) ∧ D.nx (((Γ1.set i (some (.fro d))).set j (some (.fro e))).set l (some (.fro f)))
  | _ => False
theorem ds_par3 {i j l : Nat} {x y z : Str} {a b c : Expr} {ta : DA} {px py pz pt pos : Pos} {kt k2 pt2} (hc : X.calm = true) (hN : X.N.Nodup) (hi : X.N[i]? = some x) (hj : X.N[j]? = some y) (hl : X.N[l]? = some z) (hij : i ≠ j) (hil : i ≠ l) (hjl : j ≠ l)
    (hx : X.env.scope.names.lookup x = some .local) (hy : X.env.scope.names.lookup y = some .local) (hz : X.env.scope.names.lookup z = some .local) (ha : AE X ow B [a, b, c] ta)
    (hw : swappedStores [.Tuple [.Name x px, .Name y py, .Name z pz] kt pt] (.Tuple [a, b, c] k2 pt2) X.env = pure (some [x, y, z]))
    (ho : ow.l.contains i = false := by rfl) (ho2 : ow.l.contains j = false := by rfl) (ho3 : ow.l.contains l = false := by rfl)
    (hs : swapsWithSole [.Tuple [.Name x px, .Name y py, .Name z pz] kt pt] (.Tuple [a, b, c] k2 pt2) pos.line X.env = pure false := by rfl) :
    SE X ow B (.Assign [.Tuple [.Name x px, .Name y py, .Name z pz] kt pt] (.Tuple [a, b, c] k2 pt2) pos) (dPar3 i j l ta) := (ps_par3 hc hN hi hj hl hij hil hjl hx hy hz ha hw hs).conv fun E σ H ⟨Γ, F, w, S, D, q, ok⟩ =>
  ⟨Γ, F, w, S, _, q, fun ds Γ' F' w' H' vs h e1 S1 r => by
    split at h
    · rename_i d e' f
      cases r with
      | cons r1 r =>
        cases r with
        | cons r2 r =>
          cases r with
          | cons r3 r =>
            cases r
            obtain ⟨w2, S2⟩ := S1.store (i := i) (A := []) (ρ := .fro d) ⟨r1, rfl⟩ Tmp.nil ho (by rw [← S1.len]; exact h.1.1)
            obtain ⟨w3, S3⟩ := S2.store (i := j) (A := []) (ρ := .fro e') ⟨r2, rfl⟩ Tmp.nil ho2 (by rw [List.length_set, ← S1.len]; exact h.1.2.1)
            obtain ⟨w4, S4⟩ := S3.store (i := l) (A := []) (ρ := .fro f) ⟨r3, rfl⟩ Tmp.nil ho3 (by rw [List.length_set, List.length_set, ← S1.len]; exact h.1.2.2)
            exact ⟨_, _, _, rfl, ok.nx _ _ _ _ _ h.2 e1 S4⟩
    · exact h.elim⟩
end
end Dn
set_option Elab.async false
set_option linter.all false
set_option maxRecDepth 100000
set_option maxHeartbeats 2000000
/-! # Dn: things of one's own changed; loops; comprehensions -/
namespace Dn
open PySem PySem.Spec PyProof.Rows L2

/-! ### lists of one's own -/
section
variable {X : Cx} {ow : Ow} {B : Bs} {e b : Expr} {te : DT} {tb : DB} {pos : Pos}
/-- f: the list, the argument, what comes back and the list behind it -/
abbrev DM := List D → D → (Rv → List D → Prop) → Prop
def dMet (i : Nat) (f : DM) (te : DT) : DT := fun Γ k => match Γ[i]? with
  | some (some (.lst _)) => te Γ fun ρ Γ1 => ρ.frz fun d => match Γ1[i]? with
    | some (some (.lst ds)) => f ds d fun ρ' ds' => k ρ' (Γ1.set i (some (.lst ds')))
    | _ => False
  | _ => False
def MtD (K : PySem.W.Frag) (r : V → List V → Hp → VK → Prop) (f : DM) : Prop := ∀ {F H : Hp} {a : Addr} {vs : List V} {ds : List D} {v : V} {d : D} {k : Rv → List D → Prop} {Q : VK}, H a = some (.lst vs) → RepFs K F vs ds → RepF K F v d → f ds d k →
  (∀ ρ v' ds' vs', k ρ ds' → RepR K F H v' ρ [] → RepFs K F vs' ds' → Q v' (upd H a (.lst vs'))) → r (.ref a) [v] H Q
theorem met_conv {K : PySem.W.Frag} {r : V → List V → Hp → VK → Prop} {f : DM} (hd : MtD K r f) {i : Nat} {σ : L2.St} {H : Hp} {Q : VK} (h : tD K ow B (dMet i f te) σ H Q) : tBM K "list" r (tVar i) (tCons (tD K ow B te) tNil) σ H Q := by
  obtain ⟨Γ, F, w, S, k, q, hk⟩ := h
  unfold dMet at q
  split at q
  · rename_i ds0 e0
    obtain ⟨v, A, h1, ⟨a, vs0, rfl, z1, z2, rfl⟩, _⟩ := S.slot i _ e0
    refine ⟨_, h1, .inl ⟨rfl, _, SqL.of z1⟩, Γ, F, w, S, _, q, fun ρ Γ1 F1 w1 H1 v1 A1 q1 e1 S1 r1 t1 => ?_⟩
    obtain ⟨d, F1', q1', e1', S1', r1'⟩ := S1.frz r1 t1 q1
    split at q1'
    · rename_i ds e2
      obtain ⟨v', A', h1', r', o'⟩ := S1'.slot i _ e2
      rw [h1] at h1'; cases h1'
      obtain ⟨a', vs, ea, y1, y2, rfl⟩ := id r'
      cases ea
      refine hd y1 y2 r1' q1' fun ρ' v3 ds' vs' k3 r3 rs3 => ?_
      have S2 := S1'.mut (ρ' := .lst ds') (o := .lst vs') e2 h1 r' ⟨a, vs', rfl, upd_same, rs3, rfl⟩ (by simp) o'
      exact hk ρ' _ _ _ _ _ [] k3 (e1.trans e1') S2 (r3.mono (Same.refl _) fun b hb => by cases hb) Tmp.nil
    · exact q1'.elim
  · exact q.elim
def dAppend : DM := fun ds d k => ds.length < 1000000 ∧ k (.fro .none) (ds ++ [d])
theorem md_append {K : PySem.W.Frag} : MtD K rAppend dAppend := fun {F H a vs ds v d k Q} h1 h2 h3 hf hk =>
  ⟨a, vs, v, rfl, rfl, h1, by rw [h2.length]; exact Nat.lt_trans hf.1 (by rw [sizeLine_eq]; decide), hk _ _ _ _ hf.2 ⟨.non, rfl⟩ (h2.append (.cons h3 .nil))⟩
theorem de_append {i : Nat} {x : Str} {px apos : Pos} (hi : PE X (.Name x px) (tVar i)) (he : DE X ow B e te)
    (hbase : attributeBase (.Name x px) "append" X.env (eval (.Name x px) X.env) = eval (.Name x px) X.env := by rfl)
    (hfew : ((backTo pos (starEach [e] X.env)).all (fun x => !x.1) && (backToKw pos (keywordEach [] X.env)).all (fun x => x.1.isSome) && decide ([e].length + ([] : List Keyword).length + (if ([] : List Keyword).isEmpty then 0 else 1) < 30)) = true := by rfl)
    (hline : (apos.endLine == pos.line) = true := by rfl) (hs : starEach [e] X.env = (false, eval e X.env) :: starEach [] X.env := by rfl) (hplain : (backTo pos (starEach [] X.env)).any (·.1) = false := by rfl) :
    DE X ow B (.Call (.Attribute (.Name x px) "append" apos) [e] [] pos) (dMet i dAppend te) :=
  (pe_bm PySem.F.plainAttrs_list PySem.F.slot_list_append PySem.F.type_list_append mt_append hi (pa_cons he pa_nil hs) hbase hfew hline hs hplain).conv fun _ _ _ h => met_conv md_append h
def dPopAt : DM := fun ds d k => match d with
  | .int n => (-(2 ^ 63) ≤ n ∧ n < 2 ^ 63) ∧ ∃ j, ixN ds.length n = some j ∧ ∃ y, ds[j]? = some y ∧ k (.fro y) (ds.eraseIdx j)
  | _ => False
theorem md_popAt {K : PySem.W.Frag} : MtD K rPopAt dPopAt := fun {F H a vs ds v d k Q} h1 h2 h3 hf hk => by
  unfold dPopAt at hf
  split at hf
  · rename_i n
    obtain ⟨⟨f1, f2⟩, j, ej, y, ey, hf⟩ := hf
    obtain ⟨w, hw, rw'⟩ := h2.get ey
    rw [← h2.length] at ej
    exact ⟨a, vs, n, j, w, rfl, by rw [h3.int_inv], h1, f1, f2, (ixN_seq ej).1, hw, hk _ _ _ _ hf ⟨rw', rfl⟩ (h2.eraseIdx j)⟩
  · exact hf.elim
theorem de_popAt {i : Nat} {x : Str} {px apos : Pos} (hi : PE X (.Name x px) (tVar i)) (he : DE X ow B e te)
    (hbase : attributeBase (.Name x px) "pop" X.env (eval (.Name x px) X.env) = eval (.Name x px) X.env := by rfl)
    (hfew : ((backTo pos (starEach [e] X.env)).all (fun x => !x.1) && (backToKw pos (keywordEach [] X.env)).all (fun x => x.1.isSome) && decide ([e].length + ([] : List Keyword).length + (if ([] : List Keyword).isEmpty then 0 else 1) < 30)) = true := by rfl)
    (hline : (apos.endLine == pos.line) = true := by rfl) (hs : starEach [e] X.env = (false, eval e X.env) :: starEach [] X.env := by rfl) (hplain : (backTo pos (starEach [] X.env)).any (·.1) = false := by rfl) :
    DE X ow B (.Call (.Attribute (.Name x px) "pop" apos) [e] [] pos) (dMet i dPopAt te) :=
  (pe_bm PySem.F.plainAttrs_list PySem.F.slot_list_pop PySem.F.type_list_pop mt_popAt hi (pa_cons he pa_nil hs) hbase hfew hline hs hplain).conv fun _ _ _ h => met_conv md_popAt h

/-! ### xs[i] = v -/
def dSetIx (i : Nat) (te : DT) (ti : DB) : DS := fun D Γ => te Γ fun ρ Γ1 => ρ.frz fun d => match Γ1[i]? with
  | some (some _) => ti Γ1 fun e Γ2 => match Γ2[i]?, e with
    | some (some (.lst ds)), .int n => ∃ j, ixN ds.length n = some j ∧ D.nx (Γ2.set i (some (.lst (ds.set j d))))
    | _, _ => False
  | _ => False
theorem ds_setIx {i : Nat} {x : Str} {px p1 : Pos} (hi : PE X (.Name x px) (tVar i)) (he : DE X ow B e te) (hb : BE X ow B b tb)
    (ha : ∀ v, assign (.Subscript (.Name x px) b p1) X.env v = (do
      let ov ← holding [v] (eval (.Name x px) X.env)
      let iv ← holding [v, ov] (eval b X.env)
      standAt p1
      holding [v, ov, iv] (setItem ov iv v)
      release [v, ov, iv] []) := by intro _; rfl)
    (hs : swapsWithSole [.Subscript (.Name x px) b p1] e pos.line X.env = pure false := by rfl) (hw : swappedStores [.Subscript (.Name x px) b p1] e X.env = pure none := by rfl)
    (h1 : (assignEach [.Subscript (.Name x px) b p1] X.env).map (·.2) = [assign (.Subscript (.Name x px) b p1) X.env] := by rfl) :
    SE X ow B (.Assign [.Subscript (.Name x px) b p1] e pos) (dSetIx i te tb) := (ps_asg he (pg_sub hi hb set_list ha) hs hw h1).conv fun E σ H ⟨Γ, F, w, S, D, q, ok⟩ =>
  ⟨Γ, F, w, S, _, q, fun ρ Γ1 F1 w1 H1 v1 A1 q1 e1 S1 r1 t1 => by
    obtain ⟨d, F1', q1', e1', S1', r1'⟩ := S1.frz r1 t1 q1
    split at q1'
    · rename_i ρ0 e0
      obtain ⟨v, A, h1, _, _⟩ := S1'.slot i _ e0
      refine ⟨v, h1, Γ1, F1', w1, S1', _, q1', fun e2 Γ2 F2 w2 H2 v2 q2 ee S2 r2 => ?_⟩
      split at q2
      · rename_i ds n e3
        obtain ⟨j, ej, q2⟩ := q2
        obtain ⟨v', A', h1', r', o'⟩ := S2.slot i _ e3
        rw [h1] at h1'; cases h1'
        obtain ⟨a, vs, rfl, y1, y2, rfl⟩ := id r'
        have S3 := S2.mut (ρ' := .lst (ds.set j d)) (o := .lst (vs.set j v1)) e3 h1 r' ⟨a, _, rfl, upd_same, y2.set (r1'.mono ee) j, rfl⟩ (by simp) o'
        exact ⟨a, vs, n, j, rfl, r2.int_inv, y1, by rw [y2.length]; exact ej, ok.nx _ _ _ _ _ q2 ((e1.trans e1').trans ee) S3⟩
      · exact q2.elim
    · exact q1'.elim⟩
/-- name op= e -/
def dAug (i : Nat) (rd : D → D → (Rv → Prop) → Prop) (tb : DB) : DS := fun D Γ => match Γ[i]? with
  | some (some (.fro d)) => tb Γ fun e Γ1 => rd d e fun ρ => i < Γ1.length ∧ D.nx (Γ1.set i (some ρ))
  | _ => False
theorem ds_aug {i : Nat} {x : Str} {op : Operator} {r : R2} {rd : D → D → (Rv → Prop) → Prop} {px : Pos} (ho : OpR X (inplaceOp op) r) (hd : OpD X.K r rd) (hN : X.N.Nodup) (hi : X.N[i]? = some x) (hx : Loc X.env.scope x) (he : BE X ow B e tb) (hw : ow.l.contains i = false := by rfl) (hf : X.fn x = true ∨ X.env.scope.names.lookup x = some .local := by first | exact .inl rfl | exact .inr rfl | assumption) :
    SE X ow B (.AugAssign (.Name x px) op e pos) (dAug i rd tb) := (ps_aug hN hi hx he ho hf).conv fun E σ H ⟨Γ, F, w, S, D, q, ok⟩ => by
  unfold dAug at q
  split at q
  · rename_i d e0
    obtain ⟨v, A, h1, r1, _⟩ := S.slot i _ e0
    refine ⟨v, h1, Γ, F, w, S, _, q, fun e2 Γ1 F1 w1 H1 v1 q1 e1 S1 r2 => ?_⟩
    refine hd S1 (.fro (r1.1.mono e1)) r2 q1 fun ρ F' w' H' v3 A3 k3 e3 S3 r3 t3 => ?_
    obtain ⟨w4, S4⟩ := S3.store r3 t3 hw (by rw [← S3.len]; exact k3.1)
    exact ok.nx _ _ _ _ _ k3.2 (e1.trans e3) S4
  · exact q.elim
theorem ds_augAdd {i : Nat} {x : Str} {px : Pos} (hN : X.N.Nodup) (hi : X.N[i]? = some x) (hx : Loc X.env.scope x) (he : BE X ow B e tb) (hw : ow.l.contains i = false := by rfl) (hf : X.fn x = true ∨ X.env.scope.names.lookup x = some .local := by first | exact .inl rfl | exact .inr rfl | assumption) :
    SE X ow B (.AugAssign (.Name x px) .Add e pos) (dAug i (dI0 (· + ·)) tb) := ds_aug iop_add od_I0 hN hi hx he hw hf
theorem ds_augSub {i : Nat} {x : Str} {px : Pos} (hN : X.N.Nodup) (hi : X.N[i]? = some x) (hx : Loc X.env.scope x) (he : BE X ow B e tb) (hw : ow.l.contains i = false := by rfl) (hf : X.fn x = true ∨ X.env.scope.names.lookup x = some .local := by first | exact .inl rfl | exact .inr rfl | assumption) :
    SE X ow B (.AugAssign (.Name x px) .Sub e pos) (dAug i (dI0 (· - ·)) tb) := ds_aug iop_sub od_I0 hN hi hx he hw hf

/-! ### while -/
def dWhile (tc : DTT) (tb : DS) : DS := fun D Γ => ∃ W : Nat → Ge → Prop, (∃ m, W m Γ) ∧ ∀ m Γ, W m Γ → tc Γ fun c Γ1 => bP c (tb { D with nx := fun Γ' => ∃ m', m' < m ∧ W m' Γ', ct := fun Γ' => ∃ m', m' < m ∧ W m' Γ', bk := D.nx } Γ1) (D.nx Γ1)
theorem ds_while {c : Expr} {body : List Stmt} {tc : DTT} {tb : DS} (hp : PassesOwn (model X.prog X.w) X.A X.env X.xe) (hc : TTe X ow B c tc) (hb : SSE X ow B body tb) : SE X ow B (.While c body [] pos) (dWhile tc tb) := (ps_while hp hc hb).conv fun E σ H ⟨Γ, F, w, S, D, ⟨W, ⟨m0, w0⟩, turn⟩, ok⟩ => by
  refine ⟨fun m σ H => ∃ Γ F1 w, Same F F1 ∧ Sim X.K ow B Γ F1 w σ H ∧ W m Γ, ⟨m0, Γ, F, w, Same.refl F, S, w0⟩, ?_⟩
  rintro m σ1 H1 ⟨Γ1, F1, w1, e1, S1, q1⟩
  refine ⟨Γ1, F1, w1, S1, _, turn m Γ1 q1, fun b Γ2 F2 w2 H2 q2 e2 S2 => ?_⟩
  have e12 := e1.trans e2
  cases b with
  | true =>
    refine iteT ?_
    refine ⟨fun σ' H' => ∃ m', m' < m ∧ ∃ Γ' F' w', Same F F' ∧ Sim X.K ow B Γ' F' w' σ' H' ∧ W m' Γ', fun σ' H' h => h, Γ2, F2, w2, S2, _, q2, ?_, ?_, ?_, ?_⟩
    · rintro Γ' F' w' σ' H' ⟨m', hm, h⟩ e3 S3
      exact ⟨m', hm, Γ', F', w', e12.trans e3, S3, h⟩
    · exact (ok.mono e12).rt
    · exact (ok.mono e12).nx
    · rintro Γ' F' w' σ' H' ⟨m', hm, h⟩ e3 S3
      exact ⟨m', hm, Γ', F', w', e12.trans e3, S3, h⟩
  | false => exact iteF (ok.nx _ _ _ _ _ q2 e12 S2)
end

/-! ### what is walked -/
abbrev DI := Ge → (List D → Option Nat → Ge → Prop) → Prop
def Kp (oj : Option (Nat × V)) (items : List D) (Γ : Ge) (σ : L2.St) : Prop := match oj with
  | none => True
  | some (j, v) => Γ[j]? = some (some (.lst items)) ∧ σ[j]? = some (some v)
structure Wk (K : PySem.W.Frag) (ow : Ow) (J : It) (items : List D) (oj : Option (Nat × V)) (F1 : Hp) : Prop where
  go : ∀ (B : Bs) i Γ F w σ H d, items[i]? = some d → Sim K ow B Γ F w σ H → Same F1 F → Kp oj items Γ σ → J.go i H ∧ ∀ x H', J.yld i H x H' → ∃ F' w', Same F F' ∧ Sim K ow B Γ F' w' σ H' ∧ RepF K F' x d
  stop : ∀ (B : Bs) Γ F w σ H, Sim K ow B Γ F w σ H → Same F1 F → Kp oj items Γ σ → J.stop items.length H
def tI (K : PySem.W.Frag) (ow : Ow) (B : Bs) (t : DI) : TI := fun σ H R => ∃ Γ F w, Sim K ow B Γ F w σ H ∧ ∃ k : List D → Option Nat → Ge → Prop, t Γ k ∧
  ∀ items oj Γ' F' w' H' J, k items oj Γ' → Same F F' → Sim K ow B Γ' F' w' σ H' → Wk K ow J items (oj.map fun j => (j, (σ[j]?.join).getD .non)) F' → R J H'
abbrev IE (X : Cx) (ow : Ow) (B : Bs) (tg iter : Expr) (t : DI) : Prop := PI X tg iter (tI X.K ow B t)
theorem _root_.L2.PI.conv {X : Cx} {tg iter : Expr} {t t' : TI} (h : PI X tg iter t) (c : ∀ σ H R, t' σ H R → t σ H R) : PI X tg iter t' := ⟨fun pins s σ H R I q => h.run pins s σ H R I (c σ H R q)⟩
theorem wk_list {K : PySem.W.Frag} {ow : Ow} {a : Addr} {vs : List V} {ds : List D} {F1 : Hp} (h : F1 a = some (.lst vs)) (r : RepFs K F1 vs ds) : Wk K ow (Itl K a) ds none F1 where
  go := fun B i Γ F w σ H d hd S e _ => by
    obtain ⟨v, hv, rv⟩ := r.get hd
    have q : SqL K H a vs := SqL.of (S.sub _ _ (e _ _ h))
    refine ⟨⟨vs, v, q, hv⟩, fun x H' y => ?_⟩
    obtain ⟨e2, y⟩ := y
    subst e2
    have := y vs q
    rw [hv] at this; cases this
    exact ⟨F, w, Same.refl F, S, rv.mono e⟩
  stop := fun B Γ F w σ H S e _ => ⟨vs, SqL.of (S.sub _ _ (e _ _ h)), by rw [r.length]; exact Nat.le_refl _⟩
theorem wk_tup {K : PySem.W.Frag} {ow : Ow} {a : Addr} {vs : List V} {ds : List D} {F1 : Hp} (h : SqT K F1 a vs) (r : RepFs K F1 vs ds) : Wk K ow (Itt K a) ds none F1 where
  go := fun B i Γ F w σ H d hd S e _ => by
    obtain ⟨v, hv, rv⟩ := r.get hd
    have q : SqT K H a vs := sqT_mono S.sub (sqT_mono e h)
    refine ⟨⟨vs, v, q, hv⟩, fun x H' y => ?_⟩
    obtain ⟨e2, y⟩ := y
    subst e2
    have := y vs q
    rw [hv] at this; cases this
    exact ⟨F, w, Same.refl F, S, rv.mono e⟩
  stop := fun B Γ F w σ H S e _ => ⟨vs, sqT_mono S.sub (sqT_mono e h), by rw [r.length]; exact Nat.le_refl _⟩
/-- lo, lo + c, .. -/
def rngD (lo c : Int) (n : Nat) : List D := (List.range n).map fun i => .int (lo + (i : Nat) * c)
theorem rngD_len {lo c : Int} {n : Nat} : (rngD lo c n).length = n := by simp [rngD]
theorem rngD_get {lo c : Int} {n i : Nat} {d : D} (h : (rngD lo c n)[i]? = some d) : i < n ∧ d = .int (lo + (i : Nat) * c) := by
  unfold rngD at h
  have hi : i < n := by have := getElem?_len h; simpa using this
  rw [List.getElem?_map, List.getElem?_range hi] at h
  cases h
  exact ⟨hi, rfl⟩
theorem wk_range {K : PySem.W.Frag} {ow : Ow} {lo : Int} {n : Nat} {F1 : Hp} : Wk K ow (Itr lo n) (rngD lo 1 n) none F1 where
  go := fun B i Γ F w σ H d hd S e _ => by
    obtain ⟨hi, rfl⟩ := rngD_get hd
    refine ⟨hi, fun x H' y => ?_⟩
    obtain ⟨e2, y⟩ := y
    subst e2 y
    rw [Int.mul_one]
    exact ⟨F, w, Same.refl F, S, .int _⟩
  stop := fun B Γ F w σ H S e _ => by rw [rngD_len]; exact Nat.le_refl _
theorem wk_rangeC {K : PySem.W.Frag} {ow : Ow} {lo c : Int} {n : Nat} {F1 : Hp} : Wk K ow (Itc lo c n) (rngD lo c n) none F1 where
  go := fun B i Γ F w σ H d hd S e _ => by
    obtain ⟨hi, rfl⟩ := rngD_get hd
    refine ⟨hi, fun x H' y => ?_⟩
    obtain ⟨e2, y⟩ := y
    subst e2 y
    exact ⟨F, w, Same.refl F, S, .int _⟩
  stop := fun B Γ F w σ H S e _ => by rw [rngD_len]; exact Nat.le_refl _
section
variable {X : Cx} {ow : Ow} {B : Bs} {tg e : Expr} {te : DT} {tb : DB} {pos : Pos}
/-- a list that stands still; a tuple -/
def dL (te : DT) : DI := fun Γ k => te Γ fun ρ Γ1 => ρ.frz fun d => match d with
  | .list ds => k ds none Γ1
  | _ => False
def dT (te : DT) : DI := fun Γ k => te Γ fun ρ Γ1 => ρ.frz fun d => match d with
  | .tuple ds => k ds none Γ1
  | _ => False
theorem di_list (h : DE X ow B e te) : IE X ow B tg e (dL te) := (pi_list h).conv fun σ H R ⟨Γ, F, w, S, k, q, hk⟩ =>
  ⟨Γ, F, w, S, _, q, fun ρ Γ1 F1 w1 H1 v1 A1 q1 e1 S1 r1 t1 => by
    obtain ⟨d, F1', q1', e1', S1', r1'⟩ := S1.frz r1 t1 q1
    split at q1'
    · rename_i ds
      obtain ⟨a, vs, rfl, z1, z2⟩ := r1'.lst_inv
      exact ⟨a, rfl, ⟨vs, SqL.of (S1'.sub _ _ z1)⟩, hk _ _ _ _ _ _ _ q1' (e1.trans e1') S1' (wk_list z1 z2)⟩
    · exact q1'.elim⟩
theorem di_tup (h : DE X ow B e te) : IE X ow B tg e (dT te) := (pi_tup h).conv fun σ H R ⟨Γ, F, w, S, k, q, hk⟩ =>
  ⟨Γ, F, w, S, _, q, fun ρ Γ1 F1 w1 H1 v1 A1 q1 e1 S1 r1 t1 => by
    obtain ⟨d, F1', q1', e1', S1', r1'⟩ := S1.frz r1 t1 q1
    split at q1'
    · rename_i ds
      obtain ⟨a, vs, rfl, z1, z2⟩ := r1'.tup_inv
      exact ⟨a, rfl, ⟨vs, sqT_mono S1'.sub z1⟩, hk _ _ _ _ _ _ _ q1' (e1.trans e1') S1' (wk_tup z1 z2)⟩
    · exact q1'.elim⟩
/-- a name's own list: it must stand as it is while it is walked -/
def dLN (i : Nat) : DI := fun Γ k => match Γ[i]? with
  | some (some (.lst ds)) => k ds (some i) Γ
  | _ => False
theorem di_own {i : Nat} {x : Str} {px : Pos} (h : PE X (.Name x px) (tVar i)) : IE X ow B tg (.Name x px) (dLN i) := (pi_list h).conv fun σ H R ⟨Γ, F, w, S, k, q, hk⟩ => by
  unfold dLN at q
  split at q
  · rename_i ds e0
    obtain ⟨v, A, h1, r1, _⟩ := S.slot i _ e0
    obtain ⟨a, vs, rfl, z1, z2, rfl⟩ := id r1
    refine ⟨_, h1, a, rfl, ⟨vs, SqL.of z1⟩, hk _ _ _ _ _ _ _ q (Same.refl F) S ?_⟩
    have ev : (σ[i]?.join).getD .non = .ref a := by rw [h1]; rfl
    show Wk X.K ow (Itl X.K a) ds (some (i, (σ[i]?.join).getD .non)) F
    rw [ev]
    refine ⟨fun B' j Γ' F' w' σ' H' d hd S' e' kp => ?_, fun B' Γ' F' w' σ' H' S' e' kp => ?_⟩
    · obtain ⟨v', A', h1', r', _⟩ := S'.slot i _ kp.1
      rw [kp.2] at h1'; cases h1'
      obtain ⟨a', vs', ea, y1, y2, _⟩ := id r'
      cases ea
      obtain ⟨v, hv, rv⟩ := y2.get hd
      refine ⟨⟨vs', v, SqL.of y1, hv⟩, fun x H2 y => ?_⟩
      obtain ⟨e2, y⟩ := y
      subst e2
      have := y vs' (SqL.of y1)
      rw [hv] at this; cases this
      exact ⟨F', w', Same.refl F', S', rv⟩
    · obtain ⟨v', A', h1', r', _⟩ := S'.slot i _ kp.1
      rw [kp.2] at h1'; cases h1'
      obtain ⟨a', vs', ea, y1, y2, _⟩ := id r'
      cases ea
      exact ⟨vs', SqL.of y1, by rw [y2.length]; exact Nat.le_refl _⟩
  · exact q.elim
/-- the script -/
def dScr (i : Nat) : DI := fun Γ k => match Γ[i]? with
  | some (some (.scr ns)) => k (ns.map .int) none Γ
  | _ => False
theorem di_scr {i : Nat} {x : Str} {px : Pos} (h : PE X (.Name x px) (tVar i)) : IE X ow B tg (.Name x px) (dScr i) := (pi_list h).conv fun σ H R ⟨Γ, F, w, S, k, q, hk⟩ => by
  unfold dScr at q
  split at q
  · rename_i ns e0
    obtain ⟨v, A, h1, ⟨a, rfl, z1, rfl⟩, _⟩ := S.slot i _ e0
    refine ⟨_, h1, a, rfl, ⟨_, S.sub.seq z1⟩, hk _ _ _ _ _ _ _ q (Same.refl F) S ?_⟩
    refine ⟨fun B' j Γ' F' w' σ' H' d hd S' e' kp => ?_, fun B' Γ' F' w' σ' H' S' e' kp => ?_⟩
    · have q : SqL X.K H' a (ns.map V.int) := S'.sub.seq (e'.seq z1)
      rw [List.getElem?_map] at hd
      cases hn : ns[j]? with
      | none => rw [hn] at hd; cases hd
      | some n =>
        rw [hn] at hd; cases hd
        have hv : (ns.map V.int)[j]? = some (.int n) := by rw [List.getElem?_map, hn]; rfl
        refine ⟨⟨_, _, q, hv⟩, fun x H2 y => ?_⟩
        obtain ⟨e2, y⟩ := y
        subst e2
        have := y _ q
        rw [hv] at this; cases this
        exact ⟨F', w', Same.refl F', S', .int n⟩
    · exact ⟨_, S'.sub.seq (e'.seq z1), by simp⟩
  · exact q.elim
/-- range -/
def dRng1 (tb : DB) : DI := fun Γ k => tb Γ fun d Γ1 => match d with
  | .int j => (-(2 ^ 62) ≤ j ∧ j < 2 ^ 62) ∧ k (rngD 0 1 j.toNat) none Γ1
  | _ => False
theorem di_range1 {p : Pos} (hg : Gl X "range") (hm : X.mg "range" = none) (ha : BE X ow B e tb) (hs : starEach [e] X.env = [(false, eval e X.env)] := by rfl) (hs1 : starEach (e :: []) X.env = (false, eval e X.env) :: starEach [] X.env := by rfl) : IE X ow B tg (.Call (.Name "range" p) [e] [] pos) (dRng1 tb) :=
  (pi_range1 hg hm (pa_cons ha pa_nil hs1) hs).conv fun σ H R ⟨Γ, F, w, S, k, q, hk⟩ => ⟨Γ, F, w, S, _, q, fun d Γ1 F1 w1 H1 v1 q1 e1 S1 r1 => by
    split at q1
    · rename_i j
      exact ⟨j, by rw [r1.int_inv], q1.1.1, q1.1.2, hk _ _ _ _ _ _ _ q1.2 e1 S1 wk_range⟩
    · exact q1.elim⟩
def dRng2 (ta : DT) (tb : DB) : DI := fun Γ k => ta Γ fun x Γ1 => x.frz fun d => tb Γ1 fun e Γ2 => match d, e with
  | .int i, .int j => (-(2 ^ 62) ≤ i ∧ i < 2 ^ 62 ∧ -(2 ^ 62) ≤ j ∧ j < 2 ^ 62) ∧ k (rngD i 1 (j - i).toNat) none Γ2
  | _, _ => False
theorem di_range2 {a b : Expr} {p : Pos} {ta : DT} (hg : Gl X "range") (hm : X.mg "range" = none) (ha : DE X ow B a ta) (hb : BE X ow B b tb) (hs : starEach [a, b] X.env = [(false, eval a X.env), (false, eval b X.env)] := by rfl) (hs2 : starEach [b] X.env = [(false, eval b X.env)] := by rfl)
    (hs3 : starEach (a :: [b]) X.env = (false, eval a X.env) :: starEach [b] X.env := by rfl) (hs4 : starEach (b :: []) X.env = (false, eval b X.env) :: starEach [] X.env := by rfl) : IE X ow B tg (.Call (.Name "range" p) [a, b] [] pos) (dRng2 ta tb) :=
  (pi_range2 hg hm (pa_cons ha (pa_cons hb pa_nil hs4) hs3) hs hs2).conv fun σ H R ⟨Γ, F, w, S, k, q, hk⟩ => ⟨Γ, F, w, S, _, q, fun x Γ1 F1 w1 H1 v A h1 e1 S1 r1 t1 => by
    obtain ⟨d, F1', h1', e1', S1', r1'⟩ := S1.frz r1 t1 h1
    refine ⟨Γ1, F1', w1, S1', _, h1', fun e Γ2 F2 w2 H2 v2 q2 e2 S2 r2 => ?_⟩
    split at q2
    · rename_i i j
      exact ⟨i, j, by rw [r1'.int_inv, r2.int_inv], q2.1, hk _ _ _ _ _ _ _ q2.2 ((e1.trans e1').trans e2) S2 wk_range⟩
    · exact q2.elim⟩

/-! ### for -/
def dFor (ti : DI) (g : DG) (tb : DS) : DS := fun D Γ => ti Γ fun items oj Γ1 => oj = none ∧ ∃ I : Nat → Ge → Prop, I 0 Γ1 ∧
  (∀ i d Γ, items[i]? = some d → I i Γ → g (.fro d) Γ fun Γ2 => tb { D with nx := I (i + 1), ct := I (i + 1), bk := D.nx } Γ2) ∧ ∀ Γ, I items.length Γ → D.nx Γ
theorem ds_for {iter : Expr} {body : List Stmt} {sl : List Nat} {ti : DI} {g : DG} {tb : DS} (hp : PassesOwn (model X.prog X.w) X.A X.env X.xe) (hc : X.calm = true) (hi : IE X ow B tg iter ti) (hg : GE X ow B tg sl g) (hb : SSE X ow B body tb)
    (hs : ∀ x, foldedSetIterable iter X.env x = pure x := by intro _; rfl) : SE X ow B (.For tg iter body [] pos) (dFor ti g tb) := (ps_for hp hc hi hg hb hs).conv fun E σ H ⟨Γ, F, w, S, D, q, ok⟩ => by
  refine ⟨Γ, F, w, S, _, q, fun items oj Γ1 F1 w1 H1 J q1 e1 S1 W => ?_⟩
  obtain ⟨rfl, I, i0, turn, fin⟩ := q1
  refine ⟨fun i m σ H => i ≤ items.length ∧ m = items.length - i ∧ ∃ Γ F' w, Same F1 F' ∧ Sim X.K ow B Γ F' w σ H ∧ I i Γ, ⟨_, Nat.zero_le _, rfl, Γ1, F1, w1, Same.refl F1, S1, i0⟩, ?_⟩
  rintro i m σ2 H2 ⟨hi, rfl, Γ2, F2, w2, e2, S2, q2⟩
  by_cases hlt : i < items.length
  · refine .inr ⟨(W.go B i Γ2 F2 w2 σ2 H2 _ (List.getElem?_eq_getElem hlt) S2 e2 trivial).1, fun σ' H' => i + 1 ≤ items.length ∧ ∃ Γ F' w, Same F1 F' ∧ Sim X.K ow B Γ F' w σ' H' ∧ I (i + 1) Γ, fun σ' H' h => ⟨_, by omega, h.1, rfl, h.2⟩, fun x H3 y => ?_⟩
    obtain ⟨F3, w3, e3, S3, r3⟩ := (W.go B i Γ2 F2 w2 σ2 H2 _ (List.getElem?_eq_getElem hlt) S2 e2 trivial).2 x H3 y
    refine ⟨Γ2, F3, w3, .fro _, [], S3, ⟨r3, rfl⟩, Tmp.nil, _, turn i _ Γ2 (List.getElem?_eq_getElem hlt) q2, fun Γ4 F4 w4 σ4 H4 q4 e4 S4 _ => ?_⟩
    have e14 : Same F1 F4 := (e2.trans e3).trans e4
    refine ⟨Γ4, F4, w4, S4, _, q4, ?_, ?_, ?_, ?_⟩
    · intro Γ' F' w' σ' H' h e5 S5
      exact ⟨hlt, Γ', F', w', e14.trans e5, S5, h⟩
    · exact (ok.mono (e1.trans e14)).rt
    · exact (ok.mono (e1.trans e14)).nx
    · intro Γ' F' w' σ' H' h e5 S5
      exact ⟨hlt, Γ', F', w', e14.trans e5, S5, h⟩
  · have hin : i = items.length := by omega
    subst hin
    exact .inl ⟨W.stop B Γ2 F2 w2 σ2 H2 S2 e2 trivial, ok.nx _ _ _ _ _ (fin Γ2 q2) (e1.trans e2) S2⟩
end

/-! ### comprehensions -/
/-- the slots in vs forgotten -/
def wip (Γ : Ge) : List Nat → Ge
  | [] => Γ
  | v :: vs => (wip Γ vs).set v none
/-- what a slot holds behind a block that hid it -/
def keepR : Option (Option Rv) → Option Rv
  | some (some (.fro d)) => some (.fro d)
  | some (some (.scr ns)) => some (.scr ns)
  | _ => none
/-- the slots in vs as they were in Γ0 -/
def rst (Γ Γ0 : Ge) : List Nat → Ge
  | [] => Γ
  | v :: vs => (rst Γ Γ0 vs).set v (keepR Γ0[v]?)
theorem wip_len {Γ : Ge} : ∀ {vs : List Nat}, (wip Γ vs).length = Γ.length
  | [] => rfl
  | v :: vs => by unfold wip; rw [List.length_set, wip_len]
theorem rst_len {Γ Γ0 : Ge} : ∀ {vs : List Nat}, (rst Γ Γ0 vs).length = Γ.length
  | [] => rfl
  | v :: vs => by unfold rst; rw [List.length_set, rst_len]
theorem wip_some {Γ : Ge} {i : Nat} {ρ : Rv} : ∀ {vs : List Nat}, (wip Γ vs)[i]? = some (some ρ) → Γ[i]? = some (some ρ) ∧ i ∉ vs
  | [], h => ⟨h, by simp⟩
  | v :: vs, h => by
    unfold wip at h
    by_cases hi : v = i
    · subst hi
      by_cases hv : v < (wip Γ vs).length
      · rw [List.getElem?_set_self hv] at h; cases h
      · rw [List.getElem?_eq_none (by simpa using hv)] at h; cases h
    · rw [List.getElem?_set_ne hi] at h
      obtain ⟨h1, h2⟩ := wip_some h
      exact ⟨h1, by simp only [List.mem_cons, not_or]; exact ⟨fun e => hi e.symm, h2⟩⟩
theorem rst_some {Γ Γ0 : Ge} {i : Nat} {ρ : Rv} : ∀ {vs : List Nat}, (rst Γ Γ0 vs)[i]? = some (some ρ) → (Γ[i]? = some (some ρ) ∧ i ∉ vs) ∨ (i ∈ vs ∧ keepR Γ0[i]? = some ρ)
  | [], h => .inl ⟨h, by simp⟩
  | v :: vs, h => by
    unfold rst at h
    by_cases hi : v = i
    · subst hi
      by_cases hv : v < (rst Γ Γ0 vs).length
      · rw [List.getElem?_set_self hv] at h
        exact .inr ⟨by simp, Option.some.inj h⟩
      · rw [List.getElem?_eq_none (by simpa using hv)] at h; cases h
    · rw [List.getElem?_set_ne hi] at h
      rcases rst_some h with ⟨h1, h2⟩ | ⟨h1, h2⟩
      · exact .inl ⟨h1, by simp only [List.mem_cons, not_or]; exact ⟨fun e => hi e.symm, h2⟩⟩
      · exact .inr ⟨by simp [h1], h2⟩
theorem wipe_keep {σ : L2.St} {i : Nat} : ∀ {vs : List Nat}, i ∉ vs → (wipe σ vs)[i]? = σ[i]?
  | [], _ => rfl
  | v :: vs, h => by
    unfold wipe
    simp only [List.mem_cons, not_or] at h
    rw [List.getElem?_set_ne (fun e => h.1 e.symm)]
    exact wipe_keep h.2
theorem wipe_but {σ σ' : L2.St} {vs sl : List Nat} (b : But sl (wipe σ vs) σ') (hs : ∀ j ∈ sl, j ∈ vs) : wipe σ' vs = wipe σ vs := by
  apply List.ext_getElem?
  intro j
  by_cases hj : j ∈ vs
  · have none_ : ∀ {σ : L2.St} {vs : List Nat}, j ∈ vs → j < σ.length → (wipe σ vs)[j]? = some none := by
      intro σ vs
      induction vs with
      | nil => intro h; cases h
      | cons v vs ih =>
        intro h hl
        unfold wipe
        by_cases e : v = j
        · subst e; rw [List.getElem?_set_self (by rw [wipe_length]; exact hl)]
        · rw [List.getElem?_set_ne e]
          exact ih ((List.mem_cons.mp h).resolve_left fun z => e z.symm) hl
    have hlen : σ'.length = σ.length := b.1.trans (wipe_length _ _)
    by_cases hl : j < σ.length
    · rw [none_ hj hl, none_ hj (by rw [hlen]; exact hl)]
    · rw [List.getElem?_eq_none (by rw [wipe_length, hlen]; omega), List.getElem?_eq_none (by rw [wipe_length]; omega)]
  · rw [wipe_keep hj, b.2 j fun z => hj (hs j z)]
/-- the block of a comprehension -/
def LcGoal (items : List D) (oj : Option Nat) (Γ1 : Ge) (g : DG) (tt : DTT) (te : DT) (vs : List Nat) (k : Rv → Ge → Prop) : Prop := (∀ j, oj = some j → j ∉ vs) ∧ ∃ I : Nat → List D → Ge → Prop, I 0 [] (wip Γ1 vs) ∧
  (∀ i acc Γ, i ≤ items.length → I i acc Γ → ∀ j, oj = some j → Γ[j]? = some (some (.lst items))) ∧
  (∀ i d acc Γ, items[i]? = some d → I i acc Γ → acc.length < 1000000 ∧ g (.fro d) Γ fun Γ2 => tt Γ2 fun b Γ3 => bP b (te Γ3 fun ρ Γ4 => ρ.frz fun e => I (i + 1) (acc ++ [e]) (wip Γ4 vs)) (I (i + 1) acc (wip Γ3 vs))) ∧
  ∀ acc Γ, I items.length acc Γ → k (.lst acc) (rst Γ Γ1 vs)
def dLc (ti : DI) (g : DG) (tt : DTT) (te : DT) (vs : List Nat) : DT := fun Γ k => ti Γ fun items oj Γ1 => LcGoal items oj Γ1 g tt te vs k
end Dn
set_option Elab.async false
set_option linter.all false
set_option maxRecDepth 100000
set_option maxHeartbeats 2000000
/-! # Dn: comprehensions -/
namespace Dn
open PySem PySem.Spec PyProof.Rows L2

section
variable {K : PySem.W.Frag} {ow : Ow} {B : Bs} {Γ Γ' : Ge} {F F' : Hp} {w w' : Addr → Nat} {σ σ' : L2.St} {H H' : Hp}
/-- a beginning in the middle: what stands now stands; the slots' own things may change -/
def Bs.at (K : PySem.W.Frag) (ow : Ow) (B : Bs) (Γ : Ge) (F : Hp) (σ : L2.St) (H : Hp) : Bs :=
  { F0 := F, H0 := H, vs := B.vs, As := B.As, M := fun a => ow.T a ∨ ∃ (i : Nat) (ρ : Rv) (v : V) (A : List Addr), Γ[i]? = some (some ρ) ∧ σ[i]? = some (some v) ∧ RepR K F H v ρ A ∧ a ∈ A }
theorem Sim.enter (S : Sim K ow B Γ F w σ H) : Sim K ow (B.at K ow Γ F σ H) Γ F w σ H where
  sub := S.sub
  ff := Same.refl F
  new := fun b o h => .inl h
  keep := fun b o h _ => h
  len := S.len
  slot := fun i ρ h => by
    obtain ⟨v, A, h1, r, h2⟩ := S.slot i ρ h
    exact ⟨v, A, h1, r, fun a ha => ⟨(h2 a ha).1, (h2 a ha).2.1, .inl (.inr ⟨i, ρ, v, A, h, h1, r, ha⟩)⟩⟩
  own := S.own
  al := fun a h => by
    rcases h with h | ⟨i, ρ, v, A, _, _, r, ha⟩
    · obtain ⟨_, _, _, ps, t4, _⟩ := S.tab a h
      exact ⟨_, t4⟩
    · exact r.there a ha
  tab := fun a h => by
    obtain ⟨t1, t2, t3, ps, t4, t5⟩ := S.tab a h
    exact ⟨t1, by show H a ≠ none; rw [t4]; simp, .inl h, ps, t4, t5⟩
theorem RepR.det {v : V} {ρ : Rv} {A A' : List Addr} (r : RepR K F H v ρ A) (q : RepR K F H v ρ A') : A = A' := by
  cases ρ with
  | fro d => rw [r.2, q.2]
  | lst ds => obtain ⟨a1, _, e1, _, _, h1⟩ := r; obtain ⟨a2, _, e2, _, _, h2⟩ := q; rw [e1] at e2; cases e2; rw [h1, h2]
  | dct ds => obtain ⟨a1, _, e1, _, _, h1⟩ := r; obtain ⟨a2, _, e2, _, _, h2⟩ := q; rw [e1] at e2; cases e2; rw [h1, h2]
  | dtt ds => obtain ⟨a1, _, e1, _, _, h1⟩ := r; obtain ⟨a2, _, e2, _, _, h2⟩ := q; rw [e1] at e2; cases e2; rw [h1, h2]
  | st cs sd => obtain ⟨a1, b1, e1, g1, _, _, h1⟩ := r; obtain ⟨a2, b2, e2, g2, _, _, h2⟩ := q; rw [e1] at e2; cases e2; rw [g1] at g2; cases g2; rw [h1, h2]
  | scr ns => obtain ⟨_, _, _, h1⟩ := r; obtain ⟨_, _, _, h2⟩ := q; rw [h1, h2]
theorem Sim.ownM (S : Sim K ow B Γ F w σ H) {a : Addr} (h : (B.at K ow Γ F σ H).M a) : (w a ≠ 0 ∨ ow.T a) ∧ (B.M a ∨ B.H0 a = none) := by
  rcases h with h | ⟨i, ρ, v, A, h1, h2, r, ha⟩
  · exact ⟨.inr h, .inl (S.tab a h).2.2.1⟩
  obtain ⟨v', A', z1, z2, z3⟩ := S.slot i ρ h1
  rw [h2] at z1; cases z1
  rw [r.det z2] at ha
  exact ⟨.inl (by rw [(z3 a ha).1]; omega), (z3 a ha).2.2⟩
theorem Sim.back (S : Sim K ow B Γ F w σ H) (T : Sim K ow (B.at K ow Γ F σ H) Γ' F' w' σ' H') : Sim K ow B Γ' F' w' σ' H' where
  sub := T.sub
  ff := S.ff.trans T.ff
  new := fun b o h => by
    rcases T.new b o h with z | z
    · exact S.new b o z
    · exact .inr (S.fresh z).2
  keep := fun b o h1 h2 => by
    refine T.keep b o (S.keep b o h1 h2) fun m => ?_
    rcases (S.ownM m).2 with z | z
    · exact h2 z
    · rw [h1] at z; cases z
  len := T.len
  slot := fun i ρ h => by
    obtain ⟨v, A, h1, r, h2⟩ := T.slot i ρ h
    refine ⟨v, A, h1, r, fun a ha => ⟨(h2 a ha).1, (h2 a ha).2.1, ?_⟩⟩
    rcases (h2 a ha).2.2 with z | z
    · exact (S.ownM z).2
    · exact .inr (S.fresh z).2
  own := T.own
  al := fun a ha => by
    obtain ⟨o, e⟩ := S.al a ha
    by_cases m : (B.at K ow Γ F σ H).M a
    · exact T.al a m
    · exact ⟨o, T.keep a o e m⟩
  tab := fun a ha => by
    obtain ⟨t1, t2, t3, _⟩ := S.tab a ha
    obtain ⟨u1, _, _, u4⟩ := T.tab a ha
    exact ⟨u1, t2, t3, u4⟩
/-- what is no slot's own stands as it stood -/
theorem Sim.stood (S : Sim K ow B Γ F w σ H) (T : Sim K ow (B.at K ow Γ F σ H) Γ' F' w' σ' H') {a : Addr} {o : HO} (h : H a = some o) (h0 : w a = 0) (hn : ∀ ps, o ≠ .tbl ps) : H' a = some o :=
  T.keep a o h fun m => (S.ownM m).1.elim (fun z => z h0) fun z => by
    obtain ⟨_, _, _, ps, t4, _⟩ := S.tab a z
    rw [h] at t4
    exact hn ps (Option.some.inj t4)
/-- .. and is no slot's own still -/
theorem Sim.unowned (S : Sim K ow B Γ F w σ H) (T : Sim K ow (B.at K ow Γ F σ H) Γ' F' w' σ' H') {a : Addr} {o : HO} (h : H a = some o) (h0 : w a = 0) (hn : ∀ ps, o ≠ .tbl ps) : Sim K ow B Γ' F' (wset w' a 0) σ' H' := by
  have U := S.back T
  have no : ∀ {i : Nat} {ρ : Rv} {v : V} {A : List Addr}, Γ'[i]? = some (some ρ) → σ'[i]? = some (some v) → RepR K F' H' v ρ A → ∀ b ∈ A, b ≠ a := fun {i ρ v A} h1 h2 r b hb e => by
    obtain ⟨v', A', z1, z2, z3⟩ := T.slot i ρ h1
    rw [h2] at z1; cases z1
    rw [r.det z2] at hb
    rcases (z3 b hb).2.2 with z | z
    · rw [e] at z
      refine (S.ownM z).1.elim (fun z => z h0) fun z => ?_
      obtain ⟨_, _, _, ps, t4, _⟩ := S.tab a z
      rw [h] at t4
      exact hn ps (Option.some.inj t4)
    · rw [e] at z
      have z' : H a = none := z
      rw [h] at z'; cases z'
  refine ⟨U.sub, U.ff, U.new, U.keep, U.len, fun i ρ h1 => ?_, fun i hi => ?_, U.al, U.tab⟩
  · obtain ⟨v, A, h2, r, h3⟩ := U.slot i ρ h1
    exact ⟨v, A, h2, r, fun b hb => by rw [wset_ne (no h1 h2 r b hb)]; exact h3 b hb⟩
  · obtain ⟨ρ, v, A, h1, h2, h3, h4, r, h5⟩ := U.own i hi
    exact ⟨ρ, v, A, h1, h2, h3, h4, r, fun b hb => by rw [wset_ne (no h1 h4 r b hb)]; exact h5 b hb⟩
theorem Sim.nofrz (T : Sim K ow (B.at K ow Γ F σ H) Γ' F' w' σ' H') {a : Addr} {o : HO} (h : H a = some o) (hf : F a = none) : F' a = none := by
  cases q : F' a with
  | none => rfl
  | some u =>
    rcases T.new a u q with z | z
    · have z' : F a = some u := z
      rw [hf] at z'; cases z'
    · have z' : H a = none := z
      rw [h] at z'; cases z'
/-- a thing that no slot owns and that was made since is changed -/
theorem Sim.upd0 (S : Sim K ow B Γ F w σ H) {a : Addr} {o : HO} (h0 : w a = 0) (hf : F a = none) (hb : B.H0 a = none) : Sim K ow B Γ F w σ (upd H a o) := by
  have no : ∀ {n : Nat} {A : List Addr}, (∀ b ∈ A, w b = n + 1 ∧ F b = none) → ∀ b ∈ A, upd H a o b = H b := fun {n A} h b hbA => upd_ne fun e => by
    have := (h b hbA).1
    rw [e, h0] at this
    omega
  refine ⟨fun b u h => by rw [upd_ne (fun e => by rw [e, hf] at h; cases h)]; exact S.sub _ _ h, S.ff, S.new, fun b u h1 h2 => by rw [upd_ne (fun e => by rw [e, hb] at h1; cases h1)]; exact S.keep _ _ h1 h2, S.len, fun i ρ h1 => ?_, fun i hi => ?_, fun b hbm => ?_, fun b ht => ?_⟩
  · obtain ⟨v, A, h2, r, h3⟩ := S.slot i ρ h1
    exact ⟨v, A, h2, r.mono (Same.refl F) (no (n := i) fun b hbA => ⟨(h3 b hbA).1, (h3 b hbA).2.1⟩), h3⟩
  · obtain ⟨ρ, v, A, h1, h2, h3, h4, r, h5⟩ := S.own i hi
    exact ⟨ρ, v, A, h1, h2, h3, h4, r.mono (Same.refl F) (no h5), h5⟩
  · by_cases e : b = a
    · rw [e]; exact ⟨_, upd_same⟩
    · rw [upd_ne e]; exact S.al b hbm
  · obtain ⟨t1, t2, t3, ps, t4, t5⟩ := S.tab b ht
    refine ⟨t1, t2, t3, ps, ?_, t5⟩
    rw [upd_ne (fun e => t2 (by rw [e]; exact hb))]
    exact t4
theorem Sim.wipe (S : Sim K ow B Γ F w σ H) {vs : List Nat} (hv : ∀ v ∈ vs, ow.l.contains v = false) : Sim K ow B (wip Γ vs) F w (L2.wipe σ vs) H := by
  refine ⟨S.sub, S.ff, S.new, S.keep, by rw [wip_len, wipe_length]; exact S.len, fun i ρ h1 => ?_, fun i hi => ?_, S.al, S.tab⟩
  · obtain ⟨h1, hn⟩ := wip_some h1
    obtain ⟨v, A, h2, r, h3⟩ := S.slot i ρ h1
    exact ⟨v, A, by rw [wipe_keep hn]; exact h2, r, h3⟩
  · have hn : i ∉ vs := fun m => by
      have := hv i m
      rw [List.contains_iff_mem.mpr hi] at this; cases this
    obtain ⟨ρ, v, A, h1, h2, h3, h4, r, h5⟩ := S.own i hi
    refine ⟨ρ, v, A, ?_, h2, h3, by rw [wipe_keep hn]; exact h4, r, h5⟩
    have : ∀ {vs : List Nat}, i ∉ vs → (wip Γ vs)[i]? = Γ[i]? := fun {vs} => by
      induction vs with
      | nil => intro _; rfl
      | cons x xs ih =>
        intro hx
        unfold wip
        simp only [List.mem_cons, not_or] at hx
        rw [List.getElem?_set_ne (fun e => hx.1 e.symm)]
        exact ih hx.2
    rw [this hn]
    exact h1
/-- out of a block: the hidden slots as they were, what of them stands still -/
theorem Sim.rst (S : Sim K ow B Γ F w σ H) {vs : List Nat} (T : Sim K ow B Γ' F' w' (L2.wipe σ vs) H') (e : Same F F') (hv : ∀ v ∈ vs, ow.l.contains v = false) : Sim K ow B (Dn.rst Γ' Γ vs) F' w' σ H' := by
  refine ⟨T.sub, T.ff, T.new, T.keep, by rw [rst_len, T.len, wipe_length], fun i ρ h1 => ?_, fun i hi => ?_, T.al, T.tab⟩
  · rcases rst_some h1 with ⟨h1, hn⟩ | ⟨hm, h1⟩
    · obtain ⟨v, A, h2, r, h3⟩ := T.slot i ρ h1
      rw [wipe_keep hn] at h2
      exact ⟨v, A, h2, r, h3⟩
    · unfold keepR at h1
      split at h1
      · rename_i d e0
        cases h1
        obtain ⟨v, A, h2, r, h3⟩ := S.slot i _ e0
        exact ⟨v, [], h2, ⟨r.1.mono e, rfl⟩, fun a ha => by cases ha⟩
      · rename_i ns e0
        cases h1
        obtain ⟨v, A, h2, ⟨a, rfl, r, _⟩, h3⟩ := S.slot i _ e0
        exact ⟨_, [], h2, ⟨a, rfl, e.seq r, rfl⟩, fun a ha => by cases ha⟩
      · cases h1
  · have hn : i ∉ vs := fun m => by
      have := hv i m
      rw [List.contains_iff_mem.mpr hi] at this; cases this
    obtain ⟨ρ, v, A, h1, h2, h3, h4, r, h5⟩ := T.own i hi
    rw [wipe_keep hn] at h4
    refine ⟨ρ, v, A, ?_, h2, h3, h4, r, h5⟩
    have : ∀ {vs : List Nat}, i ∉ vs → (Dn.rst Γ' Γ vs)[i]? = Γ'[i]? := fun {vs} => by
      induction vs with
      | nil => intro _; rfl
      | cons x xs ih =>
        intro hx
        unfold Dn.rst
        simp only [List.mem_cons, not_or] at hx
        rw [List.getElem?_set_ne (fun e => hx.1 e.symm)]
        exact ih hx.2
    rw [this hn]
    exact h1
end

theorem wipe_wipe {σ : L2.St} {vs : List Nat} : L2.wipe (L2.wipe σ vs) vs = L2.wipe σ vs := wipe_but (But.refl [] _) fun _ h => by cases h
/-! ### the block -/
abbrev TsE (X : Cx) (ow : Ow) (B : Bs) (ifs : List Expr) (t : DTT) : Prop := PTs X ifs (tT X.K ow B t)
def dYes : DTT := fun Γ k => k true Γ
section
variable {X : Cx} {ow : Ow} {B : Bs}
theorem dts_nil : TsE X ow B [] dYes := ⟨fun pins s σ H Q I ⟨Γ, F, w, S, k, q, hk⟩ => pts_nil.run pins s σ H Q I (hk _ _ _ _ _ q (Same.refl F) S)⟩
theorem dts_one {c : Expr} {t : DTT} (h : TTe X ow B c t) : TsE X ow B [c] t := pts_one h
theorem lc_conv {ti : DI} {g : DG} {tt : DTT} {te : DT} {vs sl : List Nat} {σ : L2.St} {H : Hp} {Q : VK} (hsl : ∀ j ∈ sl, j ∈ vs) (hv : ∀ v ∈ vs, ow.l.contains v = false)
    {wi : TI} {gg : TG} {tts : TT} {tes : TE} (hwi : ∀ R, tI X.K ow B ti σ H R → wi σ H R)
    (hgg : ∀ B v σ H Q, tG X.K ow B sl g v σ H Q → gg v σ H Q) (htt : ∀ B σ H Q, tT X.K ow B tt σ H Q → tts σ H Q) (hte : ∀ B σ H Q, tD X.K ow B te σ H Q → tes σ H Q)
    (h : tD X.K ow B (dLc ti g tt te vs) σ H Q) : tLc wi gg tts tes vs σ H Q := by
  obtain ⟨Γ, F, w, S, k, q, hk⟩ := h
  refine hwi _ ⟨Γ, F, w, S, _, q, fun items oj Γ1 F1 w1 H1 J q1 e1 S1 Wo => ?_⟩
  intro L hL
  obtain ⟨hoj, I, i0, keep, turn, fin⟩ := q1
  obtain ⟨fL, zL⟩ := S1.fresh hL
  have S2 : Sim X.K ow B (wip Γ1 vs) F1 (wset w1 L 0) (wipe σ vs) (upd H1 L (.lst [])) := (S1.grow (same_upd hL) fun b hb => wset_ne fun e => hb (by rw [e]; exact hL)).wipe hv
  have kp : ∀ {i : Nat} {acc : List D} {Γ : Ge}, i ≤ items.length → I i acc Γ → Kp (oj.map fun j => (j, (σ[j]?.join).getD .non)) items Γ (wipe σ vs) → Kp (oj.map fun j => (j, (σ[j]?.join).getD .non)) items Γ (wipe σ vs) := fun _ _ h => h
  refine ⟨fun i m H2 => i ≤ items.length ∧ m = items.length - i ∧ ∃ Γ2 F2 w2 acc va, Same F1 F2 ∧ Sim X.K ow B Γ2 F2 w2 (wipe σ vs) H2 ∧ H2 L = some (.lst va) ∧ RepFs X.K F2 va acc ∧ w2 L = 0 ∧ F2 L = none ∧ I i acc Γ2,
    ⟨_, Nat.zero_le _, rfl, _, F1, _, [], [], Same.refl F1, S2, upd_same, .nil, wset_same, fL, i0⟩, ?_⟩
  rintro i m H2 ⟨hi, rfl, Γ2, F2, w2, acc, va, e2, S2', hva, ra, w0, f0, inv⟩
  -- what is walked stands as it is
  have hkp : Kp (oj.map fun j => (j, (σ[j]?.join).getD .non)) items Γ2 (wipe σ vs) := by
    cases hj : oj with
    | none => trivial
    | some j =>
      have z := keep i acc Γ2 hi inv j hj
      obtain ⟨v, A, z1, _, _⟩ := S2'.slot j _ z
      refine ⟨z, ?_⟩
      rw [z1]
      rw [wipe_keep (hoj j hj)] at z1
      rw [z1]
      rfl
  by_cases hlt : i < items.length
  · have T := S2'.enter
    obtain ⟨go, yl⟩ := Wo.go _ i Γ2 F2 w2 _ H2 _ (List.getElem?_eq_getElem hlt) T e2 hkp
    obtain ⟨hacc, tn⟩ := turn i _ acc Γ2 (List.getElem?_eq_getElem hlt) inv
    refine .inr ⟨go, fun H' => i + 1 ≤ items.length ∧ ∃ Γ2 F2 w2 acc va, Same F1 F2 ∧ Sim X.K ow B Γ2 F2 w2 (wipe σ vs) H' ∧ H' L = some (.lst va) ∧ RepFs X.K F2 va acc ∧ w2 L = 0 ∧ F2 L = none ∧ I (i + 1) acc Γ2, fun H' hn => ⟨_, by omega, hn.1, rfl, hn.2⟩, fun x H3 y => ?_⟩
    obtain ⟨F3, w3, e3, S3, r3⟩ := yl x H3 y
    refine hgg _ _ _ _ _ ⟨Γ2, F3, w3, .fro _, [], S3, ⟨r3, rfl⟩, Tmp.nil, _, tn, fun Γ4 F4 w4 σ4 H4 q4 e4 S4 b4 => ⟨wipe_but b4 hsl, ?_⟩⟩
    refine htt _ _ _ _ ⟨Γ4, F4, w4, S4, _, q4, fun b Γ5 F5 w5 H5 q5 e5 S5 => ?_⟩
    have ew : wipe σ4 vs = wipe σ vs := (wipe_but (vs := vs) (σ := wipe σ vs) (by rw [wipe_wipe]; exact b4) hsl).trans wipe_wipe
    cases b with
    | true =>
      refine iteT (hte _ _ _ _ ⟨Γ5, F5, w5, S5, _, q5, fun ρ Γ6 F6 w6 H6 v6 A6 q6 e6 S6 r6 t6 => ?_⟩)
      obtain ⟨d, F6', q6', e6', S6', r6'⟩ := S6.frz r6 t6 q6
      have S7 := S6'.wipe hv
      rw [ew] at S7
      have hL7 : H6 L = some (.lst va) := S2'.stood S7 hva w0 (fun _ z => by cases z)
      have S8 := S2'.unowned S7 hva w0 (fun _ z => by cases z)
      have f8 : F6' L = none := Sim.nofrz S7 hva f0
      have ee : Same F2 F6' := (((e3.trans e4).trans e5).trans e6).trans e6'
      refine ⟨va, hL7, by rw [ra.length]; exact Nat.lt_trans hacc (by rw [sizeLine_eq]; decide), hlt, _, F6', _, acc ++ [d], va ++ [v6], e2.trans ee, S8.upd0 wset_same f8 zL, upd_same, (ra.mono ee).append (.cons r6' .nil), wset_same, f8, q6'⟩
    | false =>
      refine iteF ?_
      have S7 := S5.wipe hv
      rw [ew] at S7
      have ee : Same F2 F5 := (e3.trans e4).trans e5
      exact ⟨hlt, _, F5, _, acc, va, e2.trans ee, S2'.unowned S7 hva w0 (fun _ z => by cases z), S2'.stood S7 hva w0 (fun _ z => by cases z), ra.mono ee, wset_same, Sim.nofrz S7 hva f0, q5⟩
  · have hin : i = items.length := by omega
    subst hin
    refine .inl ⟨Wo.stop _ Γ2 F2 w2 _ H2 S2' e2 hkp, ?_⟩
    have S9 := S1.rst S2' e2 hv
    exact hk (.lst acc) _ _ _ _ _ [L] (fin acc Γ2 inv) (e1.trans e2) S9 ⟨L, va, rfl, hva, ra, rfl⟩ fun a ha => by
      rw [List.mem_singleton.mp ha]
      exact ⟨w0, f0, zL⟩
theorem all_no {ow : Ow} {vs : List Nat} (h : (vs.all fun v => !ow.l.contains v) = true) : ∀ v ∈ vs, ow.l.contains v = false := fun v hv => by
  have := List.all_eq_true.mp h v hv
  simpa using this
def xD (K : PySem.W.Frag) (ow : Ow) (t : DT) : TE := fun σ H Q => ∃ B, tD K ow B t σ H Q
def xT (K : PySem.W.Frag) (ow : Ow) (t : DTT) : TT := fun σ H Q => ∃ B, tT K ow B t σ H Q
def xG (K : PySem.W.Frag) (ow : Ow) (sl : List Nat) (g : DG) : TG := fun v σ H Q => ∃ B, tG K ow B sl g v σ H Q
theorem PE.ex {e : Expr} {t : DT} (h : ∀ B, DE X ow B e t) : PE X e (xD X.K ow t) := ⟨fun pins s σ H Q I ⟨B, q⟩ => (h B).run pins s σ H Q I q⟩
theorem PTs.ex {ifs : List Expr} {t : DTT} (h : ∀ B, TsE X ow B ifs t) : PTs X ifs (xT X.K ow t) := ⟨fun pins s σ H Q I ⟨B, q⟩ => (h B).run pins s σ H Q I q⟩
theorem PG.ex {e : Expr} {sl : List Nat} {g : DG} (h : ∀ B, GE X ow B e sl g) : PG X e (xG X.K ow sl g) := ⟨fun pins s σ H v u Q I r ⟨B, q⟩ => (h B).run pins s σ H v u Q I r q⟩
variable {elt tg iter : Expr} {ifs : List Expr} {scope : Scope} {own : List (Str × Nat)} {pos : Pos} {ti : DI} {g : DG} {tt : DTT} {te : DT} {sl : List Nat}
theorem de_lc (hc : X.calm = true) (hN : X.N.Nodup) (hi : IE X ow B tg iter ti) (ok : BlkOk X.N X.env.scope scope own)
    (hg : ∀ (B : Bs) (s : Shared) (H : Hp) (C : Addr) (cl : List (Str × Addr)) (fp : List Addr), GE (X.blk s H scope (compEnvC scope cl C X.env) fp) ow B tg sl g) (ht : ∀ (B : Bs) (s : Shared) (H : Hp) (C : Addr) (cl : List (Str × Addr)) (fp : List Addr), TsE (X.blk s H scope (compEnvC scope cl C X.env) fp) ow B ifs tt)
    (he : ∀ (B : Bs) (s : Shared) (H : Hp) (C : Addr) (cl : List (Str × Addr)) (fp : List Addr), DE (X.blk s H scope (compEnvC scope cl C X.env) fp) ow B elt te)
    (hsl : ∀ j ∈ sl, j ∈ own.map (·.2) := by decide) (hv : ((own.map (·.2)).all fun v => !ow.l.contains v) = true := by rfl) (hs : ∀ x, foldedSetIterable iter X.env x = pure x := by intro _; rfl) :
    DE X ow B (.ListComp elt [⟨tg, iter, ifs, 0⟩] scope pos) (dLc ti g tt te (own.map (·.2))) :=
  (pe_lc (g := xG X.K ow sl g) (tt := xT X.K ow tt) (te := xD X.K ow te) hc hN hi ok (fun s H C cl fp => PG.ex fun B => hg B s H C cl fp) (fun s H C cl fp => PTs.ex fun B => ht B s H C cl fp) (fun s H C cl fp => PE.ex fun B => he B s H C cl fp) hs).conv fun σ H Q h =>
    lc_conv (sl := sl) hsl (all_no hv) (fun _ h => h) (fun B _ _ _ _ h => ⟨B, h⟩) (fun B _ _ _ h => ⟨B, h⟩) (fun B _ _ _ h => ⟨B, h⟩) h
theorem ds_setLc {i : Nat} {y : Str} {py : Pos} {spos : Pos} (hc : X.calm = true) (hN : X.N.Nodup) (hy : X.N[i]? = some y) (hyl : X.env.scope.names.lookup y = some .local)
    (hsw : swapsWith (.ListComp elt [⟨tg, iter, ifs, 0⟩] scope pos) (some (.Name y py)) spos.line X.env = pure true) (hi : IE X ow B tg iter ti) (ok : BlkOk X.N X.env.scope scope own)
    (hg : ∀ (B : Bs) (s : Shared) (H : Hp) (C : Addr) (cl : List (Str × Addr)) (fp : List Addr), GE (X.blk s H scope (compEnvC scope cl C X.env) fp) ow B tg sl g) (ht : ∀ (B : Bs) (s : Shared) (H : Hp) (C : Addr) (cl : List (Str × Addr)) (fp : List Addr), TsE (X.blk s H scope (compEnvC scope cl C X.env) fp) ow B ifs tt)
    (he : ∀ (B : Bs) (s : Shared) (H : Hp) (C : Addr) (cl : List (Str × Addr)) (fp : List Addr), DE (X.blk s H scope (compEnvC scope cl C X.env) fp) ow B elt te)
    (ho : ow.l.contains i = false := by rfl) (hsl : ∀ j ∈ sl, j ∈ own.map (·.2) := by decide) (hv : ((own.map (·.2)).all fun v => !ow.l.contains v) = true := by rfl) (hs : ∀ x, foldedSetIterable iter X.env x = pure x := by intro _; rfl) :
    SE X ow B (.Assign [.Name y py] (.ListComp elt [⟨tg, iter, ifs, 0⟩] scope pos) spos) (dSet i (dLc ti g tt te (own.map (·.2)))) :=
  (ps_setLc (g := xG X.K ow sl g) (tt := xT X.K ow tt) (te := xD X.K ow te) hc hN hy hyl hsw hi ok (fun s H C cl fp => PG.ex fun B => hg B s H C cl fp) (fun s H C cl fp => PTs.ex fun B => ht B s H C cl fp) (fun s H C cl fp => PE.ex fun B => he B s H C cl fp) hs).conv fun E σ H h => by
    have z := set_conv ho h
    exact lc_conv (sl := sl) hsl (all_no hv) (fun _ h => h) (fun B _ _ _ _ h => ⟨B, h⟩) (fun B _ _ _ h => ⟨B, h⟩) (fun B _ _ _ h => ⟨B, h⟩) z
end
/-! ### the common block: it changes nothing that is outside -/
theorem wip_keep {Γ : Ge} {j : Nat} : ∀ {vs : List Nat}, j ∉ vs → (wip Γ vs)[j]? = Γ[j]?
  | [], _ => rfl
  | x :: xs, h => by
    unfold wip
    simp only [List.mem_cons, not_or] at h
    rw [List.getElem?_set_ne (fun e => h.1 e.symm)]
    exact wip_keep h.2
/-- f: what becomes of an item, none where a test leaves it out -/
theorem lc_map {α : Type} {items : List D} {oj : Option Nat} {Γ1 : Ge} {g : DG} {tt : DTT} {te : DT} {vs : List Nat} {k : Rv → Ge → Prop} (xs : List α) (enc : α → D) (f : α → Option D) (hx : items = xs.map enc) (hl : xs.length ≤ 1000000)
    (turn : ∀ x, x ∈ xs → ∀ (yes : D → Ge → Prop) (no : Ge → Prop), (match f x with
      | some e => ∀ Γ4, wip Γ4 vs = wip Γ1 vs → yes e Γ4
      | none => ∀ Γ4, wip Γ4 vs = wip Γ1 vs → no Γ4) → g (.fro (enc x)) (wip Γ1 vs) fun Γ2 => tt Γ2 fun b Γ3 => bP b (te Γ3 fun ρ Γ4 => ρ.frz fun e => yes e Γ4) (no Γ3))
    (fin : k (.lst (xs.filterMap f)) (rst (wip Γ1 vs) Γ1 vs)) (hoj : ∀ j, oj = some j → j ∉ vs ∧ Γ1[j]? = some (some (.lst items)) := by intro j h; cases h) :
    LcGoal items oj Γ1 g tt te vs k := by
  refine ⟨fun j hj => (hoj j hj).1, fun i acc Γ' => acc = (xs.take i).filterMap f ∧ Γ' = wip Γ1 vs, ⟨by simp, rfl⟩, ?_, ?_, ?_⟩
  · rintro i acc Γ' _ ⟨_, rfl⟩ j hj
    rw [wip_keep (hoj j hj).1]
    exact (hoj j hj).2
  · rintro i d acc Γ' hd ⟨rfl, rfl⟩
    subst hx
    have hlt := getElem?_len hd
    rw [List.length_map] at hlt
    have hxi : xs[i]? = some xs[i] := List.getElem?_eq_getElem hlt
    rw [List.getElem?_map, hxi] at hd
    cases hd
    refine ⟨?_, turn xs[i] (List.getElem_mem hlt) _ _ ?_⟩
    · have a1 := List.length_filterMap_le f (xs.take i)
      rw [List.length_take] at a1
      omega
    · have e : (xs.take (i + 1)).filterMap f = (xs.take i).filterMap f ++ (match f xs[i] with | some e => [e] | none => []) := by
        rw [List.take_succ, hxi]
        simp only [Option.toList, List.filterMap_append, List.filterMap_cons, List.filterMap_nil]
        cases f xs[i] <;> rfl
      cases hf : f xs[i] with
      | some y => exact fun Γ4 h4 => ⟨by rw [e, hf], h4⟩
      | none => exact fun Γ4 h4 => ⟨by rw [e, hf]; simp, h4⟩
  · rintro acc Γ' ⟨rfl, rfl⟩
    subst hx
    rw [List.length_map, List.take_length]
    exact fin
end Dn
set_option Elab.async false
set_option linter.all false
set_option maxRecDepth 100000
set_option maxHeartbeats 2000000
/-! # Dn: calls of defs; a def's promise over plain data -/
namespace Dn
open PySem PySem.Spec PyProof.Rows L2

/-! ### promises -/
/-- a def's promise: what its arguments are worth; what comes back, and what its own arguments are worth then -/
abbrev DSp := List Rv → (Rv → List Rv → Prop) → Prop
inductive Reps (K : PySem.W.Frag) (F H : Hp) : List V → List Rv → List (List Addr) → Prop
  | nil : Reps K F H [] [] []
  | cons {v : V} {vs : List V} {ρ : Rv} {ρs : List Rv} {A : List Addr} {As : List (List Addr)} : RepR K F H v ρ A → Reps K F H vs ρs As → Reps K F H (v :: vs) (ρ :: ρs) (A :: As)
def isOwn : Rv → Bool
  | .fro _ => false
  | .scr _ => false
  | _ => true
/-- the places of the arguments that are a def's own -/
def owOf (ρs : List Rv) : List Nat := (List.range ρs.length).filter fun i => match ρs[i]? with
  | some ρ => isOwn ρ
  | none => false
/-- ρs with what its own became in Γ -/
def backOf (ow : List Nat) (ρs : List Rv) (Γ : Ge) : List Rv := (List.range ρs.length).map fun i => if ow.contains i then (match Γ[i]? with | some (some ρ) => ρ | _ => .fro .none) else (ρs[i]?).getD (.fro .none)
/-- what a call leaves -/
structure CallOk (K : PySem.W.Frag) (T : Addr → Prop) (F H : Hp) (vs : List V) (As : List (List Addr)) (ρ : Rv) (ρs' : List Rv) (v : V) (F' H' : Hp) (A : List Addr) : Prop where
  ff : Same F F'
  sub : Same F' H'
  new : ∀ b o, F' b = some o → F b = some o ∨ H b = none
  keep : ∀ b o, H b = some o → b ∉ As.flatten → ¬ T b → H' b = some o
  tab : ∀ a, T a → GxR.TabG H' a
  res : RepR K F' H' v ρ A
  tmp : ∀ a ∈ A, F' a = none ∧ H a = none
  args : Reps K F' H' vs ρs' As
  free : ∀ a ∈ As.flatten, F' a = none
def spD (K : PySem.W.Frag) (T : Addr → Prop) (p : DSp) : Sp := fun vs H Q _ => ∃ F ρs As, Same F H ∧ (∀ a, T a → F a = none ∧ GxR.TabG H a) ∧ Reps K F H vs ρs As ∧ As.flatten.Nodup ∧ (∀ a ∈ As.flatten, F a = none) ∧ ∃ k, p ρs k ∧
  ∀ ρ ρs' v F' H' A, k ρ ρs' → CallOk K T F H vs As ρ ρs' v F' H' A → Q v H'

/-! ### a call -/
/-- an argument: data that stands still, or a name's own thing, the script -/
inductive Ar where
  | fro (d : D)
  | own (i : Nat)
abbrev DAr := Ge → (List Ar → Ge → Prop) → Prop
def ArOk (K : PySem.W.Frag) (F : Hp) (σ : L2.St) : List V → List Ar → Prop := Paired fun v a => match a with
  | .fro d => RepF K F v d
  | .own i => σ[i]? = some (some v)
def tAr (K : PySem.W.Frag) (ow : Ow) (B : Bs) (t : DAr) : TA := fun σ H Q => ∃ Γ F w, Sim K ow B Γ F w σ H ∧ ∃ k : List Ar → Ge → Prop, t Γ k ∧
  ∀ as Γ' F' w' H' vs, k as Γ' → Same F F' → Sim K ow B Γ' F' w' σ H' → ArOk K F' σ vs as → Q vs H'
abbrev ArE (X : Cx) (ow : Ow) (B : Bs) (es : List Expr) (t : DAr) : Prop := PA X es (tAr X.K ow B t)
theorem ArOk.mono {K : PySem.W.Frag} {F F' : Hp} {σ : L2.St} {vs : List V} {as : List Ar} (e : Same F F') (h : ArOk K F σ vs as) : ArOk K F' σ vs as := Paired.mapP h fun v a q => by
  cases a with
  | fro d => exact RepF.mono e q
  | own i => exact q
section
variable {X : Cx} {ow : Ow} {B : Bs} {e : Expr} {es : List Expr} {te : DT} {ta : DAr} {pos : Pos}
def arNil : DAr := fun Γ k => k [] Γ
def arCons (t : DT) (u : DAr) : DAr := fun Γ k => t Γ fun x Γ1 => x.frz fun d => u Γ1 fun as Γ2 => k (.fro d :: as) Γ2
def arOwn (i : Nat) (u : DAr) : DAr := fun Γ k => match Γ[i]? with
  | some (some _) => u Γ fun as Γ2 => k (.own i :: as) Γ2
  | _ => False
theorem ar_nil : ArE X ow B [] arNil := pa_nil.conv fun σ H Q ⟨Γ, F, w, S, k, q, hk⟩ => hk _ _ _ _ _ _ q (Same.refl F) S .nil
theorem ar_cons (ha : DE X ow B e te) (hr : ArE X ow B es ta) (hs : starEach (e :: es) X.env = (false, eval e X.env) :: starEach es X.env := by rfl) : ArE X ow B (e :: es) (arCons te ta) := (pa_cons ha hr hs).conv fun σ H Q ⟨Γ, F, w, S, k, q, hk⟩ => by
  refine ⟨Γ, F, w, S, _, q, fun x Γ1 F1 w1 H1 v A h1 e1 S1 r1 t1 => ?_⟩
  obtain ⟨d, F1', h1', e1', S1', r1'⟩ := S1.frz r1 t1 h1
  exact ⟨Γ1, F1', w1, S1', _, h1', fun as Γ2 F2 w2 H2 vs q2 e2 S2 r2 => hk _ _ _ _ _ _ q2 ((e1.trans e1').trans e2) S2 (.cons (r1'.mono e2) r2)⟩
theorem ar_own {i : Nat} (ha : PE X e (tVar i)) (hr : ArE X ow B es ta) (hs : starEach (e :: es) X.env = (false, eval e X.env) :: starEach es X.env := by rfl) : ArE X ow B (e :: es) (arOwn i ta) := (pa_cons ha hr hs).conv fun σ H Q ⟨Γ, F, w, S, k, q, hk⟩ => by
  unfold arOwn at q
  split at q
  · rename_i ρ e0
    obtain ⟨v, A, h1, _, _⟩ := S.slot i _ e0
    exact ⟨v, h1, Γ, F, w, S, _, q, fun as Γ2 F2 w2 H2 vs q2 e2 S2 r2 => hk _ _ _ _ _ _ q2 e2 S2 (.cons h1 r2)⟩
  · exact q.elim
/-- what the arguments are worth -/
def argsOf (Γ : Ge) : List Ar → Option (List Rv)
  | [] => some []
  | .fro d :: as => (argsOf Γ as).map (.fro d :: ·)
  | .own i :: as => match Γ[i]? with
    | some (some ρ) => (argsOf Γ as).map (ρ :: ·)
    | _ => none
/-- the names' own things put back -/
def putBack (Γ : Ge) : List Ar → List Rv → Ge
  | .own i :: as, ρ :: ρs => (putBack Γ as ρs).set i (some ρ)
  | .fro _ :: as, _ :: ρs => putBack Γ as ρs
  | _, _ => Γ
def ownIx : List Ar → List Nat
  | [] => []
  | .fro _ :: as => ownIx as
  | .own i :: as => i :: ownIx as
/-- the kinds of what came back are those of what went in -/
def dCall (p : DSp) (ta : DAr) : DT := fun Γ k => ta Γ fun as Γ1 => (ownIx as).Nodup ∧ match argsOf Γ1 as with
  | some ρs => p ρs fun ρ ρs' => k ρ (putBack Γ1 as ρs')
  | none => False
end
section
variable {K : PySem.W.Frag} {ow : Ow} {B : Bs} {Γ : Ge} {F F' : Hp} {w : Addr → Nat} {σ : L2.St} {H H' : Hp}
/-- the arguments as the callee takes them -/
theorem args_reps (S : Sim K ow B Γ F w σ H) : ∀ (as : List Ar) (vs : List V) (ρs : List Rv), ArOk K F σ vs as → argsOf Γ as = some ρs → (ownIx as).Nodup →
    ∃ As : List (List Addr), Reps K F H vs ρs As ∧ As.flatten.Nodup ∧ (∀ a ∈ As.flatten, ∃ i ∈ ownIx as, w a = i + 1 ∧ F a = none ∧ (B.M a ∨ B.H0 a = none)) ∧
      ∀ (n j : Nat), as[n]? = some (.own j) → ∃ A v ρ, As[n]? = some A ∧ vs[n]? = some v ∧ σ[j]? = some (some v) ∧ Γ[j]? = some (some ρ) ∧ RepR K F H v ρ A ∧ ∀ a ∈ A, w a = j + 1 := by
  intro as
  induction as with
  | nil => intro vs ρs r h _; cases r; cases h; exact ⟨[], .nil, List.nodup_nil, (fun a ha => by cases ha), fun n j h => by simp at h⟩
  | cons x as ih =>
    intro vs ρs r h hn
    cases r with
    | cons r rs =>
      cases x with
      | fro d =>
        unfold argsOf at h
        cases q : argsOf Γ as with
        | none => rw [q] at h; cases h
        | some ρs' =>
          rw [q] at h; cases h
          obtain ⟨As, h1, h2, h3, h4⟩ := ih _ _ rs q hn
          refine ⟨[] :: As, .cons ⟨r, rfl⟩ h1, h2, h3, fun n j hj => ?_⟩
          cases n with
          | zero => cases hj
          | succ n => exact h4 n j hj
      | own i =>
        unfold argsOf at h
        have hn' := List.nodup_cons.mp (show (i :: ownIx as).Nodup from hn)
        split at h
        · rename_i ρ e0
          cases q : argsOf Γ as with
          | none => rw [q] at h; cases h
          | some ρs' =>
            rw [q] at h; cases h
            obtain ⟨As, h1, h2, h3, h4⟩ := ih _ _ rs q hn'.2
            obtain ⟨v, A, g1, g2, g3⟩ := S.slot i _ e0
            have r' : σ[i]? = some (some _) := r
            rw [r'] at g1; cases g1
            refine ⟨A :: As, .cons g2 h1, ?_, ?_, ?_⟩
            · show (A ++ As.flatten).Nodup
              rw [List.nodup_append]
              refine ⟨?_, h2, fun a ha b hb e => ?_⟩
              · cases ρ with
                | fro d => rw [g2.2]; exact List.nodup_nil
                | lst ds => obtain ⟨_, _, _, _, _, h1⟩ := g2; rw [h1]; simp
                | dct ds => obtain ⟨_, _, _, _, _, h1⟩ := g2; rw [h1]; simp
                | dtt ds => obtain ⟨_, _, _, _, _, h1⟩ := g2; rw [h1]; simp
                | st cs sd => obtain ⟨_, _, _, _, _, ne, h1⟩ := g2; rw [h1]; simp [ne]
                | scr ns => obtain ⟨_, _, _, h1⟩ := g2; rw [h1]; exact List.nodup_nil
              · obtain ⟨j, hj, wj, _⟩ := h3 b hb
                rw [← e, (g3 a ha).1] at wj
                have : i = j := by omega
                subst this
                exact hn'.1 hj
            · intro a ha
              rcases List.mem_append.mp (show a ∈ A ++ As.flatten from ha) with ha | ha
              · exact ⟨i, by simp [ownIx], g3 a ha⟩
              · obtain ⟨j, hj, wj⟩ := h3 a ha
                exact ⟨j, by simp [ownIx, hj], wj⟩
            · intro n j hj
              cases n with
              | zero => cases hj; exact ⟨A, _, ρ, rfl, rfl, r', e0, g2, fun a ha => (g3 a ha).1⟩
              | succ n => exact h4 n j hj
        · cases h
theorem Reps.get {vs : List V} {ρs : List Rv} {As : List (List Addr)} (r : Reps K F H vs ρs As) : ∀ {n : Nat} {v : V} {A : List Addr}, vs[n]? = some v → As[n]? = some A → ∃ ρ, ρs[n]? = some ρ ∧ RepR K F H v ρ A := by
  induction r with
  | nil => intro n v A h; simp at h
  | cons r rs ih =>
    intro n v A h1 h2
    cases n with
    | zero => cases h1; cases h2; exact ⟨_, rfl, r⟩
    | succ n => exact ih h1 h2
theorem Reps.there {vs : List V} {ρs : List Rv} {As : List (List Addr)} (r : Reps K F H vs ρs As) : ∀ a ∈ As.flatten, ∃ o, H a = some o := by
  induction r with
  | nil => intro a ha; cases ha
  | cons r rs ih =>
    intro a ha
    rcases List.mem_append.mp ha with ha | ha
    · exact r.there a ha
    · exact ih a ha
theorem ownIx_get : ∀ {as : List Ar} {j : Nat}, j ∈ ownIx as → ∃ n : Nat, as[n]? = some (Ar.own j)
  | .fro d :: as, j, h => let ⟨n, q⟩ := ownIx_get (as := as) h
    ⟨n + 1, q⟩
  | .own i :: as, j, h => by
    rcases List.mem_cons.mp h with e | h
    · exact ⟨0, by rw [e]; rfl⟩
    · obtain ⟨n, q⟩ := ownIx_get (as := as) h
      exact ⟨n + 1, q⟩
theorem ownIx_of : ∀ {as : List Ar} {n j : Nat}, as[n]? = some (.own j) → j ∈ ownIx as
  | .fro d :: as, 0, j, h => by cases h
  | .own i :: as, 0, j, h => by cases h; simp [ownIx]
  | .fro d :: as, n + 1, j, h => ownIx_of (as := as) h
  | .own i :: as, n + 1, j, h => by
    have := ownIx_of (as := as) (n := n) h
    simp [ownIx, this]
theorem putBack_len : ∀ {as : List Ar} {ρs : List Rv}, (putBack Γ as ρs).length = Γ.length
  | [], _ => by unfold putBack; rfl
  | .own i :: as, [] => by unfold putBack; rfl
  | .fro d :: as, [] => by unfold putBack; rfl
  | .own i :: as, ρ :: ρs => by unfold putBack; rw [List.length_set]; exact putBack_len
  | .fro d :: as, ρ :: ρs => by unfold putBack; exact putBack_len
theorem putBack_out : ∀ {as : List Ar} {ρs : List Rv} {j : Nat}, j ∉ ownIx as → (putBack Γ as ρs)[j]? = Γ[j]?
  | [], _, _, _ => by unfold putBack; rfl
  | .own i :: as, [], _, _ => by unfold putBack; rfl
  | .fro d :: as, [], _, _ => by unfold putBack; rfl
  | .own i :: as, ρ :: ρs, j, h => by
    have h' : j ≠ i ∧ j ∉ ownIx as := by simpa [ownIx] using h
    unfold putBack
    rw [List.getElem?_set_ne (fun e => h'.1 e.symm)]
    exact putBack_out h'.2
  | .fro d :: as, ρ :: ρs, j, h => by unfold putBack; exact putBack_out (as := as) h
theorem putBack_in : ∀ {as : List Ar} {ρs : List Rv} {n j : Nat} {ρ : Rv}, as[n]? = some (.own j) → ρs[n]? = some ρ → (ownIx as).Nodup → j < Γ.length → (putBack Γ as ρs)[j]? = some (some ρ)
  | .own i :: as, ρ' :: ρs, 0, j, ρ, h1, h2, _, hl => by
    cases h1; cases h2
    unfold putBack
    rw [List.getElem?_set_self (by rw [putBack_len]; exact hl)]
  | .own i :: as, ρ' :: ρs, n + 1, j, ρ, h1, h2, hn, hl => by
    have hn' := List.nodup_cons.mp (show (i :: ownIx as).Nodup from hn)
    have hj : j ∈ ownIx as := ownIx_of (n := n) h1
    unfold putBack
    rw [List.getElem?_set_ne (fun e => hn'.1 (by rw [e]; exact hj))]
    exact putBack_in (n := n) h1 h2 hn'.2 hl
  | .fro d :: as, ρ' :: ρs, n + 1, j, ρ, h1, h2, hn, hl => by unfold putBack; exact putBack_in (n := n) (as := as) h1 h2 hn hl
  | .fro d :: as, ρ' :: ρs, 0, j, ρ, h1, h2, hn, hl => by cases h1
  | [], _, _, _, _, h1, _, _, _ => by simp at h1
  | .own i :: as, [], n, _, _, _, h2, _, _ => by simp at h2
  | .fro i :: as, [], n, _, _, _, h2, _, _ => by simp at h2
/-- behind a call -/
theorem Sim.called (S : Sim K ow B Γ F w σ H) {as : List Ar} {vs : List V} {ρs ρs' : List Rv} {As : List (List Addr)} {ρ : Rv} {v : V} {A : List Addr} (hn : (ownIx as).Nodup) (hr : Reps K F H vs ρs As)
    (h3 : ∀ a ∈ As.flatten, ∃ i ∈ ownIx as, w a = i + 1 ∧ F a = none ∧ (B.M a ∨ B.H0 a = none))
    (h4 : ∀ (n j : Nat), as[n]? = some (.own j) → ∃ A v ρ, As[n]? = some A ∧ vs[n]? = some v ∧ σ[j]? = some (some v) ∧ Γ[j]? = some (some ρ) ∧ RepR K F H v ρ A ∧ ∀ a ∈ A, w a = j + 1)
    (c : CallOk K ow.T F H vs As ρ ρs' v F' H' A) : ∃ w', Sim K ow B (putBack Γ as ρs') F' w' σ H' ∧ Tmp B w' F' A := by
  have old : ∀ {a : Addr} {o : HO}, H a = some o → a ∉ A := fun {a o} h ha => by rw [(c.tmp a ha).2] at h; cases h
  have keepA : ∀ {j : Nat} {A' : List Addr} {ρ : Rv} {v : V}, RepR K F H v ρ A' → (∀ a ∈ A', w a = j + 1) → j ∉ ownIx as → ∀ a ∈ A', H' a = H a := fun {j A' ρ v} r hw hj a ha => by
    obtain ⟨o, e⟩ := r.there a ha
    rw [e]
    refine c.keep a o e (fun hm => ?_) fun ht => ?_
    · obtain ⟨i, hi, wi, _⟩ := h3 a hm
      rw [hw a ha] at wi
      have : j = i := by omega
      subst this
      exact hj hi
    · obtain ⟨_, _, _, ps, t4, _⟩ := S.tab a ht
      exact r.notab ha ps t4
  have notF : ∀ {a : Addr} {o : HO}, H a = some o → F a = none → F' a = none := fun {a o} h hf => by
    cases q : F' a with
    | none => rfl
    | some u =>
      rcases c.new a u q with z | z
      · rw [hf] at z; cases z
      · rw [h] at z; cases z
  have inAs : ∀ {n : Nat} {A' : List Addr} {a : Addr}, As[n]? = some A' → a ∈ A' → a ∈ As.flatten := fun {n A' a} h1 h2 => List.mem_flatten.mpr ⟨A', List.mem_of_getElem? h1, h2⟩
  have slotOf : ∀ {j : Nat} {ρ1 : Rv}, (putBack Γ as ρs')[j]? = some (some ρ1) → ∃ v1 A1, σ[j]? = some (some v1) ∧ RepR K F' H' v1 ρ1 A1 ∧ (∀ a ∈ A1, w a = j + 1 ∧ F' a = none ∧ (B.M a ∨ B.H0 a = none) ∧ ∃ o, H a = some o) := fun {j ρ1} h => by
    by_cases hj : j ∈ ownIx as
    · obtain ⟨n, en⟩ := ownIx_get hj
      obtain ⟨A1, v1, _, g1, g2, g3, _, _, g4⟩ := h4 n j en
      obtain ⟨ρ2, g5, g6⟩ := c.args.get g2 g1
      have hl : j < Γ.length := by rw [S.len]; exact getElem?_len g3
      rw [putBack_in en g5 hn hl] at h
      cases h
      refine ⟨v1, A1, g3, g6, fun a ha => ?_⟩
      have hm := inAs g1 ha
      obtain ⟨_, _, _, _, z⟩ := h3 a hm
      exact ⟨g4 a ha, c.free a hm, z, hr.there a hm⟩
    · rw [putBack_out hj] at h
      obtain ⟨v1, A1, g1, g2, g3⟩ := S.slot j _ h
      refine ⟨v1, A1, g1, g2.mono c.ff (keepA g2 (fun a ha => (g3 a ha).1) hj), fun a ha => ?_⟩
      obtain ⟨o, e⟩ := g2.there a ha
      exact ⟨(g3 a ha).1, notF e (g3 a ha).2.1, (g3 a ha).2.2, o, e⟩
  refine ⟨fun b => if b ∈ A then 0 else w b, ⟨c.sub, S.ff.trans c.ff, fun b o h => ?_, fun b o h1 h2 => ?_, by rw [putBack_len]; exact S.len, fun j ρ1 h => ?_, fun j hj => ?_, fun a ha => ?_, fun a ha => ?_⟩, fun a ha => ⟨if_pos ha, (c.tmp a ha).1, ?_⟩⟩
  · rcases c.new b o h with z | z
    · exact S.new b o z
    · exact .inr (S.fresh z).2
  · refine c.keep b o (S.keep b o h1 h2) (fun hm => ?_) fun ht => h2 (S.tab b ht).2.2.1
    obtain ⟨_, _, _, _, z⟩ := h3 b hm
    rcases z with z | z
    · exact h2 z
    · rw [h1] at z; cases z
  · obtain ⟨v1, A1, g1, g2, g3⟩ := slotOf h
    refine ⟨v1, A1, g1, g2, fun a ha => ?_⟩
    obtain ⟨z1, z2, z3, o, e⟩ := g3 a ha
    exact ⟨by rw [if_neg (old e)]; exact z1, z2, z3⟩
  · obtain ⟨ρ1, v1, A1, g1, g2, g3, g4, g5, g6⟩ := S.own j hj
    have hex : ∃ ρ2, (putBack Γ as ρs')[j]? = some (some ρ2) := by
      by_cases hm : j ∈ ownIx as
      · obtain ⟨n, en⟩ := ownIx_get hm
        obtain ⟨A2, v2, _, q1, q2, q3, _, _, q4⟩ := h4 n j en
        obtain ⟨ρ2, q5, q6⟩ := c.args.get q2 q1
        exact ⟨ρ2, putBack_in en q5 hn (by rw [S.len]; exact getElem?_len q3)⟩
      · exact ⟨ρ1, by rw [putBack_out hm]; exact g1⟩
    obtain ⟨ρ2, e2⟩ := hex
    by_cases hm : j ∈ ownIx as
    · obtain ⟨n, en⟩ := ownIx_get hm
      obtain ⟨A2, v2, ρ9, q1, q2, q3, y1, y2, q4⟩ := h4 n j en
      obtain ⟨ρ3, q5, q6⟩ := c.args.get q2 q1
      rw [putBack_in en q5 hn (by rw [S.len]; exact getElem?_len q3)] at e2
      cases e2
      rw [q3] at g4; cases g4
      have hA : A2 = A1 := by
        rw [g1] at y1; cases y1
        exact y2.det g5
      subst hA
      refine ⟨_, v1, A2, putBack_in en q5 hn (by rw [S.len]; exact getElem?_len q3), g2, g3, q3, q6, fun a ha => ?_⟩
      have hm2 := inAs q1 ha
      obtain ⟨o, e⟩ := hr.there a hm2
      exact ⟨by rw [if_neg (old e)]; exact q4 a ha, c.free a hm2⟩
    · rw [putBack_out hm] at e2
      rw [g1] at e2; cases e2
      refine ⟨ρ1, v1, A1, by rw [putBack_out hm]; exact g1, g2, g3, g4, g5.mono c.ff (keepA g5 (fun a ha => (g6 a ha).1) hm), fun a ha => ?_⟩
      obtain ⟨o, e⟩ := g5.there a ha
      exact ⟨by rw [if_neg (old e)]; exact (g6 a ha).1, notF e (g6 a ha).2⟩
  · obtain ⟨o, e⟩ := S.al a ha
    by_cases hm : a ∈ As.flatten
    · exact c.args.there a hm
    · by_cases ht : ow.T a
      · obtain ⟨ps, t4, _⟩ := c.tab a ht
        exact ⟨_, t4⟩
      · exact ⟨o, c.keep a o e hm ht⟩
  · obtain ⟨t1, t2, t3, ps, t4, _⟩ := S.tab a ha
    exact ⟨notF t4 t1, t2, t3, c.tab a ha⟩
  · exact (S.fresh (c.tmp a ha).2).2
end
end Dn
set_option Elab.async false
set_option linter.all false
set_option maxRecDepth 100000
set_option maxHeartbeats 2000000
/-! # Dn: a def's body keeps its promise -/
namespace Dn
open PySem PySem.Spec PyProof.Rows L2
section
variable {X : Cx} {ow : Ow} {B : Bs} {CX : CXT} {k : Nat} {f : Addr} {fd : FuncData} {ps : List Str} {E : XK} {x : Str} {p pos : Pos} {e : Expr} {es : List Expr} {ta : DAr}
theorem call_conv {K : PySem.W.Frag} {sp : DSp} {E : XK} {σ : L2.St} {H : Hp} {Q : VK} (h : tD K ow B (dCall sp ta) σ H Q) : tCall (spD K ow.T sp) [] E (tAr K ow B ta) σ H Q := by
  obtain ⟨Γ, F, w, S, k, q, hk⟩ := h
  refine ⟨Γ, F, w, S, _, q, fun as Γ1 F1 w1 H1 vs q1 e1 S1 r1 => ?_⟩
  obtain ⟨hn, q1⟩ := q1
  split at q1
  · rename_i ρs ea
    obtain ⟨As, h1, h2, h3, h4⟩ := args_reps S1 as vs ρs r1 ea hn
    show spD K ow.T sp (vs ++ []) H1 Q E
    rw [List.append_nil]
    refine ⟨F1, ρs, As, S1.sub, fun a ha => (let ⟨t1, _, _, t4⟩ := S1.tab a ha; ⟨t1, t4⟩), h1, h2, fun a ha => (let ⟨_, _, _, z, _⟩ := h3 a ha; z), _, q1, fun ρ ρs' v F' H' A hk' c => ?_⟩
    obtain ⟨w', S', t'⟩ := S1.called hn h1 h3 h4 c
    exact hk ρ _ _ _ _ _ _ hk' (e1.trans c.ff) S' c.res t'
  · exact q1.elim
/-- f(a, ..) -/
theorem de_call {sp : DSp} (F : FnOk X.prog X.w X.K X.mg X.base CX k f fd ps (spD X.K ow.T sp)) (hr : Room k X.A) (hg : Gl X x) (hm : X.mg x = some (.ref f)) (hk : PySem.W.keepIn X.K (.ref f) = true) (hb : Binds X.K fd ps []) (hx : Passes CX X E)
    (ha : ArE X ow B (e :: es) ta) (hdb : (x == ("__debug__" : Str)) = false := by decide) (he : starEach (e :: es) X.env = (false, eval e X.env) :: starEach es X.env := by rfl) (hpl : (backTo pos (starEach es X.env)).any (·.1) = false := by rfl) :
    DE X ow B (.Call (.Name x p) (e :: es) [] pos) (dCall sp ta) := (pe_call F hr hg hm hk hb .nil hx ha hdb he hpl).conv fun _ _ _ h => call_conv h
end

/-! ### the beginning and the end of a body -/
theorem Reps.length {K : PySem.W.Frag} {F H : Hp} {vs : List V} {ρs : List Rv} {As : List (List Addr)} (r : Reps K F H vs ρs As) : vs.length = ρs.length ∧ As.length = ρs.length := by
  induction r with
  | nil => exact ⟨rfl, rfl⟩
  | cons _ _ ih => exact ⟨by simp [ih.1], by simp [ih.2]⟩
theorem Reps.at {K : PySem.W.Frag} {F H : Hp} {vs : List V} {ρs : List Rv} {As : List (List Addr)} (r : Reps K F H vs ρs As) : ∀ {n : Nat} {ρ : Rv}, ρs[n]? = some ρ → ∃ v A, vs[n]? = some v ∧ As[n]? = some A ∧ RepR K F H v ρ A := by
  induction r with
  | nil => intro n ρ h; simp at h
  | cons r rs ih =>
    intro n ρ h
    cases n with
    | zero => cases h; exact ⟨_, _, rfl, rfl, r⟩
    | succ n => exact ih h
theorem Reps.of {K : PySem.W.Frag} {F H : Hp} : ∀ {vs : List V} {ρs : List Rv} {As : List (List Addr)}, vs.length = ρs.length → As.length = ρs.length →
    (∀ (n : Nat) v ρ A, vs[n]? = some v → ρs[n]? = some ρ → As[n]? = some A → RepR K F H v ρ A) → Reps K F H vs ρs As
  | [], [], [], _, _, _ => .nil
  | v :: vs, ρ :: ρs, A :: As, h1, h2, h => .cons (h 0 v ρ A rfl rfl rfl) (Reps.of (by simpa using h1) (by simpa using h2) fun n v ρ A a b c => h (n + 1) v ρ A a b c)
  | [], ρ :: ρs, _, h1, _, _ => by simp at h1
  | v :: vs, [], _, h1, _, _ => by simp at h1
  | [], [], A :: As, _, h2, _ => by simp at h2
  | v :: vs, ρ :: ρs, [], _, h2, _ => by simp at h2
theorem isOwn_nil {K : PySem.W.Frag} {F H : Hp} {v : V} {ρ : Rv} {A : List Addr} (r : RepR K F H v ρ A) (h : isOwn ρ = false) : A = [] := by
  cases ρ with
  | fro d => exact r.2
  | scr ns => obtain ⟨_, _, _, h1⟩ := r; exact h1
  | lst ds => cases h
  | dct ds => cases h
  | dtt ds => cases h
  | st cs sd => cases h
theorem mem_owOf {ρs : List Rv} {i : Nat} {ρ : Rv} (h : ρs[i]? = some ρ) : i ∈ owOf ρs ↔ isOwn ρ = true := by
  unfold owOf
  rw [List.mem_filter, h]
  exact ⟨fun z => z.2, fun z => ⟨List.mem_range.mpr (getElem?_len h), z⟩⟩
theorem owOf_get {ρs : List Rv} {i : Nat} (h : i ∈ owOf ρs) : ∃ ρ, ρs[i]? = some ρ ∧ isOwn ρ = true := by
  unfold owOf at h
  obtain ⟨h1, h2⟩ := List.mem_filter.mp h
  have hl := List.mem_range.mp h1
  rw [List.getElem?_eq_getElem hl] at h2
  exact ⟨_, List.getElem?_eq_getElem hl, h2⟩
theorem RepR.still {K : PySem.W.Frag} {F F' H H' : Hp} {v : V} {ρ : Rv} {A : List Addr} (r : RepR K F H v ρ A) (h : isOwn ρ = false) (e : Same F F') : RepR K F' H' v ρ A := by
  have := isOwn_nil r h
  subst this
  exact r.mono e fun a ha => by cases ha
/-- who owns an argument's address -/
def ownerOf (As : List (List Addr)) (a : Addr) : Nat := As.findIdx (fun A => decide (a ∈ A)) + 1
theorem ownerOf_at : ∀ {As : List (List Addr)} {i : Nat} {A : List Addr} {a : Addr}, As.flatten.Nodup → As[i]? = some A → a ∈ A → ownerOf As a = i + 1
  | [], _, _, _, _, h, _ => by simp at h
  | A0 :: As, 0, A, a, _, h, ha => by
    cases h
    unfold ownerOf
    rw [List.findIdx_cons]
    simp [ha]
  | A0 :: As, i + 1, A, a, hn, h, ha => by
    have hn' : (A0 ++ As.flatten).Nodup := hn
    rw [List.nodup_append] at hn'
    have hm : a ∈ As.flatten := List.mem_flatten.mpr ⟨A, List.mem_of_getElem? h, ha⟩
    have h0 : a ∉ A0 := fun z => hn'.2.2 a z a hm rfl
    have ih := ownerOf_at (As := As) (i := i) hn'.2.1 h ha
    unfold ownerOf at ih ⊢
    rw [List.findIdx_cons]
    simp only [h0, decide_false, cond_false]
    omega
theorem start_get {N : List Str} {vs : List V} {i : Nat} {v : V} (h : vs[i]? = some v) : (L2.start N vs)[i]? = some (some v) := by
  unfold L2.start
  rw [List.getElem?_append_left (by rw [List.length_map]; exact getElem?_len h), List.getElem?_map, h]
  rfl
/-- the slots at a body's beginning -/
def start0 (n : Nat) (ρs : List Rv) : Ge := ρs.map some ++ List.replicate (n - ρs.length) none
theorem start0_get {n : Nat} {ρs : List Rv} {i : Nat} {ρ : Rv} (h : (start0 n ρs)[i]? = some (some ρ)) : ρs[i]? = some ρ := by
  unfold start0 at h
  by_cases hi : i < ρs.length
  · rw [List.getElem?_append_left (by rw [List.length_map]; exact hi), List.getElem?_map, List.getElem?_eq_getElem hi] at h
    cases h
    exact List.getElem?_eq_getElem hi
  · rw [List.getElem?_append_right (by rw [List.length_map]; omega), List.getElem?_replicate] at h
    split at h <;> cases h
theorem start0_of {n : Nat} {ρs : List Rv} {i : Nat} {ρ : Rv} (h : ρs[i]? = some ρ) : (start0 n ρs)[i]? = some (some ρ) := by
  unfold start0
  rw [List.getElem?_append_left (by rw [List.length_map]; exact getElem?_len h), List.getElem?_map, h]
  rfl
def bsOf (T : Addr → Prop) (F0 H0 : Hp) (vs : List V) (As : List (List Addr)) : Bs := { F0 := F0, H0 := H0, vs := vs, As := As, M := fun a => a ∈ As.flatten ∨ T a }
theorem sim_start {K : PySem.W.Frag} {F H : Hp} {vs : List V} {ρs : List Rv} {As : List (List Addr)} {N : List Str} (sub : Same F H) (r : Reps K F H vs ρs As) (nd : As.flatten.Nodup) (fr : ∀ a ∈ As.flatten, F a = none) {T : Addr → Prop} (tb : ∀ a, T a → F a = none ∧ GxR.TabG H a) :
    Sim K ⟨owOf ρs, T⟩ (bsOf T F H vs As) (start0 N.length ρs) F (ownerOf As) (L2.start N vs) H := by
  refine ⟨sub, Same.refl F, fun b o h => .inl h, fun b o h _ => h, ?_, fun i ρ h => ?_, fun i hi => ?_, fun a ha => ?_, fun a ha => ?_⟩
  · unfold start0 L2.start
    rw [List.length_append, List.length_append, List.length_map, List.length_map, List.length_replicate, List.length_replicate, r.length.1]
  · obtain ⟨v, A, h1, h2, h3⟩ := r.at (start0_get h)
    refine ⟨v, A, start_get h1, h3, fun a ha => ?_⟩
    have hm : a ∈ As.flatten := List.mem_flatten.mpr ⟨A, List.mem_of_getElem? h2, ha⟩
    exact ⟨ownerOf_at nd h2 ha, fr a hm, .inl (.inl hm)⟩
  · obtain ⟨ρ, h1, h2⟩ := owOf_get hi
    obtain ⟨v, A, h3, h4, h5⟩ := r.at h1
    refine ⟨ρ, v, A, start0_of h1, h3, h4, start_get h3, h5, fun a ha => ?_⟩
    have hm : a ∈ As.flatten := List.mem_flatten.mpr ⟨A, List.mem_of_getElem? h4, ha⟩
    exact ⟨ownerOf_at nd h4 ha, fr a hm⟩
  · rcases ha with ha | ha
    · exact r.there a ha
    · obtain ⟨_, ps, t4, _⟩ := tb a ha
      exact ⟨_, t4⟩
  · obtain ⟨t1, ps, t4, t5⟩ := tb a ha
    exact ⟨t1, by show H a ≠ none; rw [t4]; simp, .inr ha, ps, t4, t5⟩
/-- at a body's own level: what it may change is an own argument's, or a table -/
def Bs.Top (ow : Ow) (B : Bs) : Prop := ∀ a, B.M a → ow.T a ∨ ∃ j ∈ ow.l, ∃ A, B.As[j]? = some A ∧ a ∈ A
theorem top_bs {K : PySem.W.Frag} {F H : Hp} {vs : List V} {ρs : List Rv} {As : List (List Addr)} {T : Addr → Prop} (r : Reps K F H vs ρs As) : (bsOf T F H vs As).Top ⟨owOf ρs, T⟩ := fun a h => by
  rcases h with h | h
  · obtain ⟨A, hA, ha⟩ := List.mem_flatten.mp h
    obtain ⟨i, hi⟩ := List.getElem?_of_mem hA
    have hl : i < ρs.length := by rw [← r.length.2]; exact getElem?_len hi
    refine .inr ⟨i, ?_, A, hi, ha⟩
    refine (mem_owOf (List.getElem?_eq_getElem hl)).mpr ?_
    obtain ⟨v, A2, g1, g2, g3⟩ := r.at (List.getElem?_eq_getElem hl)
    rw [hi] at g2; cases g2
    cases q : isOwn ρs[i] with
    | true => rfl
    | false => rw [isOwn_nil g3 q] at ha; cases ha
  · exact .inl h
theorem back_len {ow : List Nat} {ρs : List Rv} {Γ : Ge} : (backOf ow ρs Γ).length = ρs.length := by simp [backOf]
theorem back_get {ow : List Nat} {ρs : List Rv} {Γ : Ge} {i : Nat} {ρ : Rv} (h : (backOf ow ρs Γ)[i]? = some ρ) : i < ρs.length ∧ ρ = if ow.contains i then (match Γ[i]? with | some (some ρ) => ρ | _ => .fro .none) else (ρs[i]?).getD (.fro .none) := by
  have hi : i < ρs.length := by have := getElem?_len h; rwa [back_len] at this
  unfold backOf at h
  rw [List.getElem?_map, List.getElem?_range hi] at h
  cases h
  exact ⟨hi, rfl⟩
theorem sim_end {K : PySem.W.Frag} {F H : Hp} {vs : List V} {ρs : List Rv} {As : List (List Addr)} {Γ' : Ge} {F' H' : Hp} {w' : Addr → Nat} {σ' : L2.St} {ρ : Rv} {v : V} {A : List Addr} (r : Reps K F H vs ρs As)
    {T : Addr → Prop} (S : Sim K ⟨owOf ρs, T⟩ (bsOf T F H vs As) Γ' F' w' σ' H') (rv : RepR K F' H' v ρ A) (t : Tmp (bsOf T F H vs As) w' F' A) : CallOk K T F H vs As ρ (backOf (owOf ρs) ρs Γ') v F' H' A := by
  refine ⟨S.ff, S.sub, S.new, fun b o h h1 h2 => S.keep b o h fun z => z.elim h1 h2, fun a ha => (S.tab a ha).2.2.2, rv, fun a ha => ⟨(t a ha).2.1, (t a ha).2.2⟩, Reps.of (by rw [back_len]; exact r.length.1) (by rw [back_len]; exact r.length.2) fun i v ρ A h1 h2 h3 => ?_, fun a ha => ?_⟩
  · obtain ⟨hi, rfl⟩ := back_get h2
    obtain ⟨v', A', g1, g2, g3⟩ := r.at (List.getElem?_eq_getElem hi)
    rw [h1] at g1; cases g1
    rw [h3] at g2; cases g2
    by_cases ho : isOwn ρs[i] = true
    · have hm : i ∈ owOf ρs := (mem_owOf (List.getElem?_eq_getElem hi)).mpr ho
      rw [if_pos (List.contains_iff_mem.mpr hm)]
      obtain ⟨ρ', v', A', z1, z2, z3, z4, z5, z6⟩ := S.own i hm
      have z2' : vs[i]? = some v' := z2
      have z3' : As[i]? = some A' := z3
      rw [h1] at z2'; cases z2'
      rw [h3] at z3'; cases z3'
      rw [z1]
      exact z5
    · have hm : ¬ (owOf ρs).contains i = true := fun z => ho ((mem_owOf (List.getElem?_eq_getElem hi)).mp (List.contains_iff_mem.mp z))
      rw [if_neg hm, List.getElem?_eq_getElem hi]
      exact g3.still (by simpa using ho) S.ff
  · obtain ⟨A', hA, ha'⟩ := List.mem_flatten.mp ha
    obtain ⟨i, hi⟩ := List.getElem?_of_mem hA
    have hl : i < ρs.length := by rw [← r.length.2]; exact getElem?_len hi
    obtain ⟨v', A2, g1, g2, g3⟩ := r.at (List.getElem?_eq_getElem hl)
    rw [hi] at g2; cases g2
    have ho : isOwn ρs[i] = true := by
      cases q : isOwn ρs[i] with
      | true => rfl
      | false => rw [isOwn_nil g3 q] at ha'; cases ha'
    obtain ⟨ρ', v', A2, z1, z2, z3, z4, z5, z6⟩ := S.own i ((mem_owOf (List.getElem?_eq_getElem hl)).mpr ho)
    have z3' : As[i]? = some A2 := z3
    rw [hi] at z3'; cases z3'
    exact (z6 a ha').2
section
variable {P : Program} {w : World} {K : PySem.W.Frag} {mg : Str → Option Value} {base : Heap}
/-- THE RULE for a def over plain data. ow: the places of the arguments that are its own -/
theorem _root_.L2.Fun.okD {x qual : Str} {st : Stmt} {f : Addr} {fd : FuncData} {N ps : List Str} {k : Nat} {p : DSp} (T : Addr → Prop) (F : Fun K x qual st f fd) (S : FnScope N ps (defScope st)) (ow : List Nat) (shape : ∀ ρs k, p ρs k → ρs.length = ps.length ∧ owOf ρs = ow)
    (hbody : ∀ (cdv : Value) (A : Around) (outer : List Env) (s : Shared) (H : Hp) (E : XK) (B : Bs) (ρs : List Rv) (k' : Rv → List Rv → Prop), fd.code = cdv → Room k (A.deeper (envOfC qual (defScope st) s.heap.objs.size f cdv)) → p ρs k' → B.Top ⟨ow, T⟩ →
      ∃ t, SSE (cxOf CX0 P w K mg base N qual (defScope st) f cdv A outer s H E).nox ⟨ow, T⟩ B (defBody st) t ∧ t { nx := fun Γ => k' (.fro .none) (backOf ow ρs Γ), rt := fun ρ Γ => k' ρ (backOf ow ρs Γ) } (start0 N.length ρs)) : FnOk P w K mg base CX0 (k + 1) f fd ps (spD K T p) := by
  obtain ⟨oc, od, kV, doc, pm, an, cdv, ct, osl, rfl, lk, hcd⟩ := F.ex
  refine fn_of lk hcd S (fun vs H Q E h => ?_) fun A outer s H vs Q E hr h => ?_
  · obtain ⟨F0, ρs, As, sub, tb, r, nd, fr, k', hp, hQ⟩ := h
    rw [r.length.1]
    exact (shape ρs k' hp).1
  · obtain ⟨F0, ρs, As, sub, tb, r, nd, fr, k', hp, hQ⟩ := h
    have ho := (shape ρs k' hp).2
    subst ho
    obtain ⟨t, ht, q⟩ := hbody cdv A outer s H E (bsOf T F0 H vs As) ρs k' rfl hr hp (top_bs r)
    refine ⟨_, ht.nox, _, F0, _, sim_start (N := N) sub r nd fr tb, _, q, ?_, ?_, ?_, ?_⟩
    · intro Γ' F' w' σ' H' h e S'
      exact hQ _ _ _ _ _ [] h (sim_end r S' ⟨.non, rfl⟩ Tmp.nil)
    · intro ρ Γ' F' w' σ' H' v A h e S' rv tv
      exact hQ _ _ _ _ _ A h (sim_end r S' rv tv)
    · intro Γ' F' w' σ' H' h e S'
      exact h.elim
    · intro Γ' F' w' σ' H' h e S'
      exact h.elim
end
end Dn
set_option Elab.async false
set_option linter.all false
set_option maxRecDepth 100000
set_option maxHeartbeats 2000000
/-! # Dn: enumerate, zip over lists and tuples alike -/
namespace Dn
open PySem PySem.Spec PyProof.Rows L2
open AutoSeq1 (wpAny_loadPart')

/-! ### a list, a tuple -/
/-- t: a tuple -/
def SqB (K : PySem.W.Frag) (t : Bool) (H : Hp) (a : Addr) (xs : List V) : Prop := match t with
  | true => SqT K H a xs
  | false => SqL K H a xs
def IsB (t : Bool) (h : Heap) (a : Addr) (its : Array Value) : Prop := match t with
  | true => h.IsTuple a its
  | false => h.IsList a its
def IterB (t : Bool) (h : Heap) (it a : Addr) (i : Nat) : Prop := match t with
  | true => h.IsTupleIter it a i
  | false => h.IsListIter it a i
def iterO (t : Bool) (a : Addr) : Obj := match t with
  | true => { cls := .type "tuple_iterator", data := .fields #[.ref a, .int 0 0] }
  | false => { cls := .type "list_iterator", data := .fields #[.ref a, .int 0 0] }
section
variable {X : Cx} {pins : List (Addr × Obj)} {σ : L2.St} {H : Hp} {s : Shared} {a : Addr} {xs ys : List V} {t : Bool}
theorem inv_sqB (I : Inv X pins σ H s) (h : SqB X.K t H a xs) : ∃ its : List Value, Vals xs its ∧ IsB t s.heap a its.toArray ∧ xs.length ≤ sizeLine := by
  cases t with
  | true =>
    obtain ⟨its, r, p, z⟩ := I.tuple h
    exact ⟨its, r, p, z⟩
  | false =>
    obtain ⟨its, r, p, z⟩ := I.list h
    exact ⟨its, r, p.isList, z⟩
theorem sqB_inj (I : Inv X pins σ H s) (h : SqB X.K t H a xs) (h' : SqB X.K t H a ys) : xs = ys := by
  cases t with
  | true => exact I.tuple_inj h h'
  | false => exact I.list_inj h h'
theorem isB_lt {h : Heap} {its : Array Value} (x : IsB t h a its) : a < h.objs.size := by
  cases t with
  | true => obtain ⟨_, e, _⟩ := x; exact Heap.lt_size e
  | false => obtain ⟨_, e, _⟩ := x; exact Heap.lt_size e
theorem iterB_obj {h : Heap} {it : Addr} {i : Nat} (x : IterB t h it a i) : ∃ o, h.get? it = some o ∧ ∀ v, o.data ≠ .cell v := by
  cases t with
  | true => obtain ⟨o, e, _, d⟩ := x; exact ⟨o, e, fun v q => by rw [d] at q; cases q⟩
  | false => obtain ⟨o, e, _, d⟩ := x; exact ⟨o, e, fun v q => by rw [d] at q; cases q⟩
theorem iterB_at {h h' : Heap} {it : Addr} {i : Nat} (x : IterB t h it a i) (k : ∀ o, h.get? it = some o → h'.get? it = some o) : IterB t h' it a i := by
  cases t with
  | true => exact Heap.IsTupleIter.at x k
  | false => exact Heap.IsListIter.at x k
theorem isB_at {h h' : Heap} {its : Array Value} (x : IsB t h a its) (k : ∀ o, h.get? a = some o → h'.get? a = some o) : IsB t h' a its := by
  cases t with
  | true => exact Heap.IsTuple.at x k
  | false => exact Heap.IsList.at x k
theorem begins_B (t : Bool) (a : Addr) (its : Array Value) : Begins (.ref a) (iterO t a) fun h => IsB t h a its := by
  cases t with
  | true => exact begins_tuple a its
  | false => exact begins_list a its
theorem iterB_new (t : Bool) {h : Heap} {it a : Addr} (e : h.get? it = some (iterO t a)) : IterB t h it a 0 := by
  cases t with
  | true => exact ⟨_, e, rfl, rfl⟩
  | false => exact ⟨_, e, rfl, rfl⟩
theorem draws_B {prog : Program} {w : World} {A : Around} (hh : A.handled = none) (t : Bool) (it a : Addr) (hne : a ≠ it) (its : Array Value) :
    Draws prog w A it [it, a] its.size (fun i v => its[i]? = some v) (fun i h => IterB t h it a i ∧ IsB t h a its) := by
  cases t with
  | true => exact Draws.tuple hh it a hne its
  | false => exact Draws.list hh it a hne its
end

/-! ### enumerate(x) of one argument begins -/
set_option maxHeartbeats 1000000 in
theorem enum1_new {v : Value} {o : Obj} {Hq : Heap → Prop} (B : Begins v o Hq) : Meets (Builtin.«enumerate.__new__» ⟨[.type "enumerate", v], []⟩) (fun _ R s => Hq s.heap ∧
      R (.ok (.ret (.ref (s.heap.push o).objs.size))) { s with heap := (s.heap.push o).push { cls := .type "enumerate", data := .fields #[.none, .bool false, .ref s.heap.objs.size, rawInt 0, .none, .none] } }) :=
  .of_wp fun prog w A R s x => by
    obtain ⟨hh, gg, dd, tk, oo⟩ := s
    obtain ⟨x1, x⟩ := x
    have hsub := sub_enumerate
    have go : ∀ {A' : Around} {E Q : Value → Shared → Prop}, Q (.ref hh.objs.size) ⟨hh.push o, gg, dd, tk, oo⟩ → wpAny (model prog w) A' (pyIter v) Q E ⟨hh, gg, dd, tk, oo⟩ := fun z => B.iter prog w _ _ ⟨hh, gg, dd, tk, oo⟩ _ x1 z
    wp_walk using go
    refine wpAny_stack_any fun st => wpAny_pure ?_
    split
    · rename_i c _ _ _ _ _
      cases (c == Value.type "enumerate")
      · wp_walk using go
        exact ⟨_, rfl, x⟩
      · wp_walk using go
        exact ⟨_, rfl, x⟩
    · wp_walk using go
      exact ⟨_, rfl, x⟩
theorem enum1_begins {prog : Program} {w : World} {A : Around} {E : Value → Shared → Prop} {s : Shared} {v : Value} {o : Obj} {Hq : Heap → Prop} {Q : Value → Shared → Prop} (B : Begins v o Hq) (h1 : Hq s.heap)
    (q : ∀ h', IsEnum h' (s.heap.objs.size + 1) s.heap.objs.size 0 .none → h'.get? s.heap.objs.size = some o → (∀ b u, s.heap.get? b = some u → h'.get? b = some u) → Q (.ref (s.heap.objs.size + 1)) { s with heap := h' }) :
    wpAny (model prog w) A (call (.type "enumerate") [v]) Q E s := by
  refine callType_new F.called_enumerate (by decide) (F.typeCall_enumerate_1 _) (F.newCall_enumerate_1 _) (fun obj => F.args_object_init_2 obj _) F.entry_enumerate_new (enum1_new B) ⟨h1, ?_⟩
  have e1 : (s.heap.push o).objs.size = s.heap.objs.size + 1 := Heap.size_push ..
  show _ ∧ _
  rw [e1]
  have e2 : IsEnum ((s.heap.push o).push { cls := .type "enumerate", data := .fields #[.none, .bool false, .ref s.heap.objs.size, rawInt 0, .none, .none] }) (s.heap.objs.size + 1) s.heap.objs.size 0 .none := by
    have z := Heap.get?_push_size (s.heap.push o) (o := { cls := .type "enumerate", data := .fields #[.none, .bool false, .ref s.heap.objs.size, rawInt 0, .none, .none] }) rfl
    rw [e1] at z
    exact z
  exact ⟨⟨_, e2, rfl⟩, q _ e2 (Heap.get?_push_of_some _ (Heap.get?_push_size _ B.free)) fun b u z => Heap.get?_push_of_some _ (Heap.get?_push_of_some _ z)⟩

/-! ### the walk of enumerate -/
theorem inv_turned2 {X : Cx} {pins : List (Addr × Obj)} {σ : L2.St} {H : Hp} {s : Shared} {h' : Heap} {tk : Nat} {ch : List Addr} (I : Inv X pins σ H s) (k : ∀ b o, b ∉ ch → s.heap.get? b = some o → h'.get? b = some o) (hf : ∀ b ∈ ch, FpOk X pins H b) : Inv X pins σ H { s with heap := h', toks := tk } := by
  have nit : ∀ b u, H b = some u → b ∉ ch := fun b u e z => by
    have q := (hf b z).1
    rw [q] at e; cases e
  refine I.step (g' := s.gens) (d' := s.drawn) (ch := ch) (fun b hb => ?_) (fun b o _ _ hc e _ => k b o hc e) (fun b o _ _ hc e _ => ⟨o.slots, k b o hc e⟩) (fun _ _ _ _ n => n) (fun b o hc e => ⟨o, k b o hc e⟩) (fun _ _ e => e) (fun _ _ _ e => e) (fun b ps e => ⟨#[], by rw [e]; simp⟩) (fun m hm => ?_) (fun b u e => ?_) I.bare
  · obtain ⟨_, f2, _, f4, f5, f6⟩ := hf b hb
    exact ⟨f4, f2, f5, f6⟩
  · obtain ⟨o, es, ep, ho, r⟩ := hm
    exact ⟨o, es, ep, k _ o (fun z => (hf _ z).2.1 rfl) ho, r⟩
  · refine (I.hok b u e).stay (fun c v hc q => k c v ?_ q) (fun _ q => q) fun _ _ q => q
    rcases hc with z | z
    · rw [z]; exact nit b u e
    · exact nit c _ z
def IteB (K : PySem.W.Frag) (t : Bool) (a : Addr) : It :=
  ⟨fun i H => ∃ (xs : List V) (x : V), SqB K t H a xs ∧ xs[i]? = some x, fun i H v H' => ∃ T x ob, v = .ref T ∧ H T = none ∧ H' = upd H T (.frz ob (.tup [.int (i : Nat), x])) ∧ ob.dict = none ∧ ∀ xs, SqB K t H a xs → xs[i]? = some x, fun i H => ∃ xs : List V, SqB K t H a xs ∧ xs.length = i⟩
theorem turn_enumB {P : Program} {w : World} {K : PySem.W.Frag} {elts : List Expr} {kk : Nat} {tpos : Pos} (t : Bool) {a e it : Addr} (n1 : e ≠ it) (n2 : a ≠ it) (n3 : a ≠ e) :
    Turn P w K (.Tuple elts kk tpos) (IteB K t a) [e, it] e (fun i h => (∃ old, IsEnum h e it ((i : Nat) : Int) old) ∧ IterB t h it a i) where
  mem := by simp
  obj := fun i h st b hb => by
    obtain ⟨⟨old, he⟩, hi⟩ := st
    rcases (show b = e ∨ b = it by simpa using hb) with z | z
    · rw [z]; exact ⟨_, he, fun v q => nomatch q⟩
    · rw [z]; exact iterB_obj hi
  keep := fun i h h' st k => let ⟨⟨old, he⟩, hi⟩ := st; ⟨⟨old, k e (by simp) _ he⟩, iterB_at hi fun o q => k it (by simp) o q⟩
  item := by
    intro X hP hw hK hc i pins s σ H E I hf st hg
    subst hP hw hK
    obtain ⟨⟨old, he⟩, hit⟩ := st
    obtain ⟨xs, x, hq, hx⟩ := hg
    obtain ⟨its, rv, p, hz⟩ := inv_sqB I hq
    obtain ⟨u, hu, ru⟩ := rv.get hx
    have W := WalksT.enumerateD (A := X.A) (draws_B (prog := X.prog) (w := X.w) (A := X.A.in1) (I.ok.hd hc) t it a n2 its.toArray) e n1 (by simp [n1, Ne.symm n3]) (by simp)
    have hi : i < its.toArray.size := by have := getElem?_len hu; simpa using this
    have le : e < s.heap.objs.size := Heap.lt_size he
    have lit : it < s.heap.objs.size := by obtain ⟨_, q, _⟩ := iterB_obj hit; exact Heap.lt_size q
    refine wpAny_pyNext_enum_itemD (draws_B (prog := X.prog) (w := X.w) (A := X.A.in1) (I.ok.hd hc) t it a n2 its.toArray) he ⟨hit, p⟩ hi n1 (by simp [n1, Ne.symm n3]) fun y h' tk hy hout hst' hT hsz hk =>
      ⟨_, rfl, W.go elts kk tpos i s.heap.objs.size { s with heap := h', toks := tk + 1 } _ E ⟨⟨_, hout⟩, hst', Nat.ne_of_gt le, Nat.ne_of_gt lit⟩ fun h'' st2 hk2 => ?_⟩
    have hyu : y = u := by
      have z : its[i]? = some y := by simpa using hy
      rw [hu] at z; exact (Option.some.inj z).symm
    subst hyu
    have hT2 := hk2 _ _ (by simp only [List.mem_cons, List.not_mem_nil, or_false, not_or]; exact ⟨Nat.ne_of_gt le, Nat.ne_of_gt lit⟩) hT
    have kk2 : ∀ b ob, b ∉ [e, it] → s.heap.get? b = some ob → h''.get? b = some ob := fun b ob hb q => hk2 b ob hb (hk b ob (fun z => hb (by simp [z])) (fun z => hb (by simp [z])) q)
    have new : ObjOk X.prog X.w (upd H s.heap.objs.size (.frz { cls := .type "tuple", data := .seq #[.int i tk, y] } (.tup [.int (i : Nat), x]))) h'' s.heap.objs.size (.frz { cls := .type "tuple", data := .seq #[.int i tk, y] } (.tup [.int (i : Nat), x])) :=
      ⟨hT2, by show 2 ≤ sizeLine; decide, [.int i tk, y], .cons ⟨_, rfl⟩ (.cons ru .nil), ⟨_, hT2, rfl, _, rfl⟩⟩
    have I1 := I.turnedNew (t' := tk + 1) (ch := [e, it]) kk2 hf (Nat.le_refl _) new
    refine ⟨.ref s.heap.objs.size, _, I1, rfl, ⟨_, x, _, rfl, I.hok.fresh (Nat.le_refl _), rfl, rfl, fun zs hzs => by rw [sqB_inj I hzs hq]; exact hx⟩, ⟨st2.1, st2.2.1⟩, fun b hb => ?_⟩
    have hb' : b < s.heap.objs.size := by
      rcases (show b = e ∨ b = it by simpa using hb) with z | z
      · rw [z]; exact le
      · rw [z]; exact lit
    rw [upd_ne (Nat.ne_of_lt hb')]
    exact (hf b hb).1
  done := by
    intro X hP hw hK hc i pins s σ H E I hf st hg
    subst hP hw hK
    obtain ⟨⟨old, he⟩, hit⟩ := st
    obtain ⟨xs, hq, hx⟩ := hg
    obtain ⟨its, rv, p, hz⟩ := inv_sqB I hq
    have W := WalksT.enumerateD (A := X.A) (draws_B (prog := X.prog) (w := X.w) (A := X.A.in1) (I.ok.hd hc) t it a n2 its.toArray) e n1 (by simp [n1, Ne.symm n3]) (by simp)
    have hi : its.toArray.size = i := by have := rv.length; simp; omega
    refine W.done s _ E (by rw [hi]; exact ⟨⟨old, he⟩, hit, p⟩) fun h' tk hk => ⟨rfl, ?_⟩
    exact inv_turned2 I hk hf
  self := fun A i s Q E st h => let ⟨⟨_, he⟩, _⟩ := st; wpAny_pyIter_enum he h
def iEnumB (K : PySem.W.Frag) (ta : TA) : TI := fun σ H R => ta σ H fun vs H1 => ∃ t a xs, vs = [.ref a] ∧ SqB K t H1 a xs ∧ R (IteB K t a) H1
theorem pi_enumB {X : Cx} {e : Expr} {ta : TA} {p pos tpos : Pos} {elts : List Expr} {kk : Nat} (hg : Gl X "enumerate") (hm : X.mg "enumerate" = none) (ha : PA X [e] ta) (hs : starEach [e] X.env = [(false, eval e X.env)] := by rfl) :
    PI X (.Tuple elts kk tpos) (.Call (.Name "enumerate" p) [e] [] pos) (iEnumB X.K ta) := by
  refine ⟨fun pins s σ H R I h => ?_⟩
  refine Call_ (ld_blt I hg hm boot_enumerate (PyProof.Rows.callWith_type1 (thn (ha.run pos pins s σ H _ I h) fun us s1 ⟨vs, H1, I1, r1, q1⟩ => ?_) hs rfl))
  obtain ⟨t, a, xs, ex, hq, q⟩ := q1
  subst ex
  cases r1 with
  | cons r rr =>
    cases rr
    cases r
    obtain ⟨its, rv, p', hz⟩ := inv_sqB I1 hq
    refine enum1_begins (begins_B t a its.toArray) p' fun h' he hit hk => wpAny_pyIter_enum he ?_
    have I2 : Inv X pins σ H1 { s1 with heap := h' } := I1.kept (t' := s1.toks) hk
    have la := isB_lt p'
    refine ⟨s1.heap.objs.size + 1, [s1.heap.objs.size + 1, s1.heap.objs.size], _, _, H1, rfl, I2, turn_enumB t (a := a) (e := s1.heap.objs.size + 1) (it := s1.heap.objs.size) (Nat.succ_ne_self _) (Nat.ne_of_lt la) (Nat.ne_of_lt (Nat.lt_succ_of_lt la)), ⟨⟨.none, he⟩, iterB_new t hit⟩, fun b hb => ?_, q⟩
    have hle : s1.heap.objs.size ≤ b := by
      rcases (show b = s1.heap.objs.size + 1 ∨ b = s1.heap.objs.size by simpa using hb) with z | z
      · rw [z]; exact Nat.le_add_right _ _
      · rw [z]; exact Nat.le_refl _
    exact I1.fpOk hle (I1.hok.fresh hle)
/-! ### zip of two -/
def ItzB (K : PySem.W.Frag) (t u : Bool) (a b : Addr) : It :=
  ⟨fun i H => ∃ (xs ys : List V) (x y : V), SqB K t H a xs ∧ SqB K u H b ys ∧ xs[i]? = some x ∧ ys[i]? = some y,
    fun i H v H' => ∃ T x y ob, v = .ref T ∧ H T = none ∧ H' = upd H T (.frz ob (.tup [x, y])) ∧ ob.dict = none ∧ (∀ xs, SqB K t H a xs → xs[i]? = some x) ∧ ∀ ys, SqB K u H b ys → ys[i]? = some y,
    fun i H => ∃ xs ys : List V, SqB K t H a xs ∧ SqB K u H b ys ∧ min xs.length ys.length = i⟩
structure ZAp (z TI TO i1 i2 a b : Addr) : Prop where
  s : ZipSep2 z TI TO i1 i2 [i1, a] [i2, b]
  a1 : a ≠ i1
  b2 : b ≠ i2
theorem turn_zipB {P : Program} {w : World} {K : PySem.W.Frag} {elts : List Expr} {kk : Nat} {tpos : Pos} (t u : Bool) {a b z TI TO i1 i2 : Addr} (D : ZAp z TI TO i1 i2 a b) :
    Turn P w K (.Tuple elts kk tpos) (ItzB K t u a b) [z, TI, TO, i1, i2] z (fun i h => IsZip h z TI TO .none ∧ IsTupOf2 h TI (.ref i1) (.ref i2) ∧ (∃ x y, IsTupOf2 h TO x y) ∧ IterB t h i1 a i ∧ IterB u h i2 b i) where
  mem := by simp
  obj := fun i h st c hc => by
    obtain ⟨hz, hTI, ⟨x, y, hTO⟩, h1, h2⟩ := st
    rcases (show c = z ∨ c = TI ∨ c = TO ∨ c = i1 ∨ c = i2 by simpa using hc) with q | q | q | q | q
    · rw [q]; exact ⟨_, hz, fun v q => nomatch q⟩
    · rw [q]; exact ⟨_, hTI, fun v q => nomatch q⟩
    · rw [q]; exact ⟨_, hTO, fun v q => nomatch q⟩
    · rw [q]; exact iterB_obj h1
    · rw [q]; exact iterB_obj h2
  keep := fun i h h' st k => by
    obtain ⟨hz, hTI, ⟨x, y, hTO⟩, h1, h2⟩ := st
    exact ⟨k z (by simp) _ hz, k TI (by simp) _ hTI, ⟨x, y, k TO (by simp) _ hTO⟩, iterB_at h1 fun o q => k i1 (by simp) o q, iterB_at h2 fun o q => k i2 (by simp) o q⟩
  item := by
    intro X hP hw hK hc i pins s σ H E I hf st hg
    subst hP hw hK
    obtain ⟨hz, hTI, hTO, h1, h2⟩ := st
    obtain ⟨xs, ys, x, y, hqx, hqy, hx, hy⟩ := hg
    obtain ⟨its, rv, p, _⟩ := inv_sqB I hqx
    obtain ⟨its2, rv2, p2, _⟩ := inv_sqB I hqy
    obtain ⟨v1, hv1, r1⟩ := rv.get hx
    obtain ⟨v2, hv2, r2⟩ := rv2.get hy
    have W := WalksT.zipD2 (A := X.A) D.s (draws_B (prog := X.prog) (w := X.w) (A := X.A.in1) (I.ok.hd hc) t i1 a D.a1 its.toArray) (draws_B (prog := X.prog) (w := X.w) (A := X.A.in1) (I.ok.hd hc) u i2 b D.b2 its2.toArray)
    have l1 := getElem?_len hv1
    have l2 := getElem?_len hv2
    have lt : ∀ {c o}, s.heap.get? c = some o → s.heap.objs.size ≠ c := fun e => Nat.ne_of_gt (Heap.lt_size e)
    have m1 : s.heap.objs.size ≠ i1 := by obtain ⟨_, e, _⟩ := iterB_obj h1; exact lt e
    have m2 : s.heap.objs.size ≠ i2 := by obtain ⟨_, e, _⟩ := iterB_obj h2; exact lt e
    obtain ⟨o1, o2, hTO⟩ := hTO
    refine wpAny_pyNext_zipD2_item D.s (draws_B (prog := X.prog) (w := X.w) (A := X.A.in1) (I.ok.hd hc) t i1 a D.a1 its.toArray) (draws_B (prog := X.prog) (w := X.w) (A := X.A.in1) (I.ok.hd hc) u i2 b D.b2 its2.toArray) hz hTI hTO ⟨h1, p⟩ ⟨h2, p2⟩ (by simpa using l1) (by simpa using l2) fun y1 y2 h' tk hy1 hy2 b1 b2 d1 d2 b5 b6 hk =>
      ⟨_, rfl, W.go elts kk tpos i s.heap.objs.size { s with heap := h', toks := tk } _ E ⟨b1, hk _ _ D.s.TIz D.s.TITO D.s.TIi1 D.s.TIi2 hTI, ⟨_, _, b2⟩, d1, d2, lt hz, lt hTO, m1, m2⟩ fun h'' st2 hk2 => ?_⟩
    have e1 : y1 = v1 := by
      have z : its[i]? = some y1 := by simpa using hy1
      rw [hv1] at z; exact (Option.some.inj z).symm
    have e2 : y2 = v2 := by
      have z : its2[i]? = some y2 := by simpa using hy2
      rw [hv2] at z; exact (Option.some.inj z).symm
    subst e1 e2
    have hT2 := hk2 _ _ (by simp only [List.mem_cons, List.not_mem_nil, or_false, not_or]; exact ⟨lt hz, lt hTO, m1, m2⟩) b5
    have kk2 : ∀ c ob, c ∉ [z, TI, TO, i1, i2] → s.heap.get? c = some ob → h''.get? c = some ob := fun c ob hc q => hk2 c ob (fun x => hc (by
      rcases (show c = z ∨ c = TO ∨ c = i1 ∨ c = i2 by simpa using x) with r | r | r | r <;> simp [r])) (hk c ob (fun x => hc (by simp [x])) (fun x => hc (by simp [x])) (fun x => hc (by simp [x])) (fun x => hc (by simp [x])) q)
    have new : ObjOk X.prog X.w (upd H s.heap.objs.size (.frz { cls := .type "tuple", data := .seq #[y1, y2] } (.tup [x, y]))) h'' s.heap.objs.size (.frz { cls := .type "tuple", data := .seq #[y1, y2] } (.tup [x, y])) :=
      ⟨hT2, by show 2 ≤ sizeLine; decide, [y1, y2], .cons r1 (.cons r2 .nil), ⟨_, hT2, rfl, _, rfl⟩⟩
    have I1 := I.turnedNew (t' := tk) (ch := [z, TI, TO, i1, i2]) kk2 hf (Nat.le_refl _) new
    refine ⟨.ref s.heap.objs.size, _, I1, rfl, ⟨_, x, y, _, rfl, I.hok.fresh (Nat.le_refl _), rfl, rfl, fun zs hzs => by rw [sqB_inj I hzs hqx]; exact hx, fun zs hzs => by rw [sqB_inj I hzs hqy]; exact hy⟩, ⟨st2.1, st2.2.1, st2.2.2.1, st2.2.2.2.1.1, st2.2.2.2.2.1⟩, fun c hcm => ?_⟩
    have hlt : c ≠ s.heap.objs.size := by
      rcases (show c = z ∨ c = TI ∨ c = TO ∨ c = i1 ∨ c = i2 by simpa using hcm) with q | q | q | q | q
      · rw [q]; exact Ne.symm (lt hz)
      · rw [q]; exact Ne.symm (lt hTI)
      · rw [q]; exact Ne.symm (lt hTO)
      · rw [q]; exact Ne.symm m1
      · rw [q]; exact Ne.symm m2
    rw [upd_ne hlt]
    exact (hf c hcm).1
  done := by
    intro X hP hw hK hc i pins s σ H E I hf st hg
    subst hP hw hK
    obtain ⟨hz, hTI, hTO, h1, h2⟩ := st
    obtain ⟨xs, ys, hqx, hqy, hend⟩ := hg
    obtain ⟨its, rv, p, _⟩ := inv_sqB I hqx
    obtain ⟨its2, rv2, p2, _⟩ := inv_sqB I hqy
    have W := WalksT.zipD2 (A := X.A) D.s (draws_B (prog := X.prog) (w := X.w) (A := X.A.in1) (I.ok.hd hc) t i1 a D.a1 its.toArray) (draws_B (prog := X.prog) (w := X.w) (A := X.A.in1) (I.ok.hd hc) u i2 b D.b2 its2.toArray)
    have hi : min its.toArray.size its2.toArray.size = i := by have := rv.length; have := rv2.length; simp; omega
    refine W.done s _ E (by rw [hi]; exact ⟨hz, hTI, hTO, ⟨h1, p⟩, ⟨h2, p2⟩⟩) fun h' tk hk => ⟨rfl, ?_⟩
    exact inv_turned2 I hk fun c hc => hf c (by rcases (show c = z ∨ c = TO ∨ c = i1 ∨ c = i2 by simpa using hc) with r | r | r | r <;> simp [r])
  self := fun A i s Q E st h => wpAny_pyIter_zip st.1 h
def iZipB (K : PySem.W.Frag) (ta : TA) : TI := fun σ H R => ta σ H fun vs H1 => ∃ t u a b xs ys, vs = [.ref a, .ref b] ∧ SqB K t H1 a xs ∧ SqB K u H1 b ys ∧ R (ItzB K t u a b) H1
theorem nmem2 {x y z : Nat} (h1 : x ≠ y) (h2 : x ≠ z) : (x : Addr) ∉ ([y, z] : List Addr) := fun h => by
  rcases List.mem_cons.mp h with e | h
  · exact h1 e
  · exact h2 (List.mem_singleton.mp h)
theorem adne {x y : Nat} (h : x ≠ y) : (x : Addr) ≠ y := h
theorem zap_new {n a b : Nat} (ha : a < n) (hb : b < n) : ZAp (n + 4) (n + 2) (n + 3) n (n + 1) a b :=
  ⟨⟨adne (by omega), adne (by omega), adne (by omega), adne (by omega), List.mem_cons_self, nmem2 (by omega) (by omega), nmem2 (by omega) (by omega), adne (by omega), List.mem_cons_self, nmem2 (by omega) (by omega), nmem2 (by omega) (by omega), nmem2 (by omega) (by omega), nmem2 (by omega) (by omega)⟩, adne (by omega), adne (by omega)⟩
theorem pi_zipB {X : Cx} {e e2 : Expr} {ta : TA} {p pos tpos : Pos} {elts : List Expr} {kk : Nat} (hg : Gl X "zip") (hm : X.mg "zip" = none) (ha : PA X [e, e2] ta) (hs : starEach [e, e2] X.env = (false, eval e X.env) :: starEach [e2] X.env := by rfl) (hpl : (backTo pos (starEach [e2] X.env)).any (·.1) = false := by rfl) :
    PI X (.Tuple elts kk tpos) (.Call (.Name "zip" p) [e, e2] [] pos) (iZipB X.K ta) := by
  refine ⟨fun pins s σ H R I h => ?_⟩
  refine Call_ (ld_blt I hg hm PyProof.Rows.boot_zip (PyProof.Rows.callWith_type1 (thn (ha.run pos pins s σ H _ I h) fun us s1 ⟨vs, H1, I1, r1, q1⟩ => ?_) hs hpl))
  obtain ⟨t, u, a, b, xs, ys, ex, hqx, hqy, q⟩ := q1
  subst ex
  cases r1 with
  | cons r rr =>
    cases rr with
    | cons r' rr =>
      cases rr
      cases r
      cases r'
      obtain ⟨its, rv, p1, _⟩ := inv_sqB I1 hqx
      obtain ⟨its2, rv2, p2, _⟩ := inv_sqB I1 hqy
      refine zip_begins2 (begins_B t a its.toArray) (begins_B u b its2.toArray) p1 p2 fun h' hz hTI hTO h1 h2 hsz hk => wpAny_pyIter_zip hz ?_
      have I2 : Inv X pins σ H1 { s1 with heap := h' } := I1.kept (t' := s1.toks) hk
      refine ⟨s1.heap.objs.size + 4, [s1.heap.objs.size + 4, s1.heap.objs.size + 2, s1.heap.objs.size + 3, s1.heap.objs.size, s1.heap.objs.size + 1], _, _, H1, rfl, I2, turn_zipB t u (zap_new (isB_lt p1) (isB_lt p2)), ⟨hz, hTI, ⟨_, _, hTO⟩, iterB_new t h1, iterB_new u h2⟩, fun c hcm => ?_, q⟩
      have hle : s1.heap.objs.size ≤ c := by
        rcases (show c = s1.heap.objs.size + 4 ∨ c = s1.heap.objs.size + 2 ∨ c = s1.heap.objs.size + 3 ∨ c = s1.heap.objs.size ∨ c = s1.heap.objs.size + 1 by simpa using hcm) with z | z | z | z | z <;> rw [z] <;> first | exact Nat.le_add_right _ _ | exact Nat.le_refl _
      exact I1.fpOk hle (I1.hok.fresh hle)
/-! ### over plain data -/
def enumD (ds : List D) : List D := ds.mapIdx fun i d => .tuple [.int (i : Nat), d]
def zipD (ds es : List D) : List D := (ds.zip es).map fun p => .tuple [p.1, p.2]
theorem enumD_len {ds : List D} : (enumD ds).length = ds.length := by simp [enumD]
theorem zipD_len {ds es : List D} : (zipD ds es).length = min ds.length es.length := by simp [zipD]
section
variable {K : PySem.W.Frag} {ow : Ow} {B : Bs} {Γ : Ge} {F F1 : Hp} {w : Addr → Nat} {σ : L2.St} {H : Hp}
/-- what stands still, of a kind -/
def FrB (K : PySem.W.Frag) (F : Hp) (t : Bool) (a : Addr) (vs : List V) : Prop := match t with
  | true => SqT K F a vs
  | false => F a = some (.lst vs)
theorem FrB.sq {t : Bool} {a : Addr} {vs : List V} (h : FrB K F t a vs) (s : Same F H) : SqB K t H a vs := by
  cases t with
  | true => exact sqT_mono s h
  | false => exact SqL.of (s _ _ h)
theorem FrB.mono {t : Bool} {a : Addr} {vs : List V} (h : FrB K F t a vs) (s : Same F F1) : FrB K F1 t a vs := by
  cases t with
  | true => exact sqT_mono s h
  | false => exact s _ _ h
/-- a new tuple stands still at once -/
theorem Sim.newT (S : Sim K ow B Γ F w σ H) {ds : List D} {vs : List V} (r : RepFs K F vs ds) {p : Addr} (hp : H p = none) {ob : Obj} (ho : ob.dict = none) : ∃ F' w', Same F F' ∧ Sim K ow B Γ F' w' σ (upd H p (.frz ob (.tup vs))) ∧ RepF K F' (.ref p) (.tuple ds) := by
  obtain ⟨f, z⟩ := S.fresh hp
  have S1 : Sim K ow B Γ F (wset w p 0) σ (upd H p (.frz ob (.tup vs))) := S.grow (same_upd hp) fun b hb => wset_ne fun e => hb (by rw [e]; exact hp)
  have e1 : Same F (upd F p (.frz ob (.tup vs))) := same_upd f
  refine ⟨_, _, e1, S1.freeze e1 (fun b o h => ?_) fun b o h => ?_, .tup (.inl ⟨ob, upd_same, ho⟩) (r.mono e1)⟩
  · by_cases e : b = p
    · subst e; rw [upd_same] at h ⊢; exact h
    · rw [upd_ne e] at h ⊢; exact S.sub _ _ h
  · by_cases e : b = p
    · subst e; exact .inr ⟨wset_same, z⟩
    · rw [upd_ne e] at h; exact .inl h
theorem wk_enumB {t : Bool} {a : Addr} {vs : List V} {ds : List D} (h : FrB K F1 t a vs) (r : RepFs K F1 vs ds) : Wk K ow (IteB K t a) (enumD ds) none F1 where
  go := fun B i Γ F w σ H d hd S e _ => by
    have q : SqB K t H a vs := (h.mono e).sq S.sub
    have hi : i < ds.length := by have := getElem?_len hd; rwa [enumD_len] at this
    obtain ⟨v, hv, rv⟩ := r.get (List.getElem?_eq_getElem hi)
    have ed : d = .tuple [.int (i : Nat), ds[i]] := by
      unfold enumD at hd
      rw [List.getElem?_mapIdx, List.getElem?_eq_getElem hi] at hd
      exact (Option.some.inj hd).symm
    refine ⟨⟨vs, v, q, hv⟩, fun x H' y => ?_⟩
    obtain ⟨T, u, ob, rfl, hT, rfl, ho, hu⟩ := y
    have eu := hu vs q
    rw [hv] at eu; cases eu
    obtain ⟨F', w', e2, S2, r2⟩ := S.newT (.cons (.int (i : Nat)) (.cons (rv.mono e) .nil)) hT ho
    exact ⟨F', w', e2, S2, by rw [ed]; exact r2⟩
  stop := fun B Γ F w σ H S e _ => ⟨vs, (h.mono e).sq S.sub, by rw [r.length, enumD_len]⟩
theorem wk_zipB {t u : Bool} {a b : Addr} {vs ws : List V} {ds es : List D} (h : FrB K F1 t a vs) (r : RepFs K F1 vs ds) (h2 : FrB K F1 u b ws) (r2 : RepFs K F1 ws es) : Wk K ow (ItzB K t u a b) (zipD ds es) none F1 where
  go := fun B i Γ F w σ H d hd S e _ => by
    have q : SqB K t H a vs := (h.mono e).sq S.sub
    have q2 : SqB K u H b ws := (h2.mono e).sq S.sub
    have hi : i < min ds.length es.length := by have := getElem?_len hd; rwa [zipD_len] at this
    obtain ⟨v, hv, rv⟩ := r.get (List.getElem?_eq_getElem (show i < ds.length by omega))
    obtain ⟨v2, hv2, rv2⟩ := r2.get (List.getElem?_eq_getElem (show i < es.length by omega))
    have ed : d = .tuple [ds[i]'(by omega), es[i]'(by omega)] := by
      unfold zipD at hd
      rw [List.getElem?_map, List.getElem?_eq_getElem (by simp; omega)] at hd
      simp at hd
      exact hd.symm
    refine ⟨⟨vs, ws, v, v2, q, q2, hv, hv2⟩, fun x H' y => ?_⟩
    obtain ⟨T, x1, x2, ob, rfl, hT, rfl, ho, hu, hu2⟩ := y
    have eu := hu vs q
    rw [hv] at eu; cases eu
    have eu2 := hu2 ws q2
    rw [hv2] at eu2; cases eu2
    obtain ⟨F', w', e2, S2, r3⟩ := S.newT (.cons (rv.mono e) (.cons (rv2.mono e) .nil)) hT ho
    exact ⟨F', w', e2, S2, by rw [ed]; exact r3⟩
  stop := fun B Γ F w σ H S e _ => ⟨vs, ws, (h.mono e).sq S.sub, (h2.mono e).sq S.sub, by rw [r.length, r2.length, zipD_len]⟩
end
section
variable {X : Cx} {ow : Ow} {B : Bs} {e e2 : Expr} {te te2 : DT} {p pos tpos : Pos} {elts : List Expr} {kk : Nat}
/-- a row: a list or a tuple -/
def rowD : D → Option (List D)
  | .list ds => some ds
  | .tuple ds => some ds
  | _ => none
theorem rowD_inv {K : PySem.W.Frag} {F : Hp} {v : V} {d : D} {ds : List D} (r : RepF K F v d) (h : rowD d = some ds) : ∃ t a vs, v = .ref a ∧ FrB K F t a vs ∧ RepFs K F vs ds := by
  cases d with
  | list es => cases h; obtain ⟨a, vs, rfl, h1, h2⟩ := r.lst_inv; exact ⟨false, a, vs, rfl, h1, h2⟩
  | tuple es => cases h; obtain ⟨a, vs, rfl, h1, h2⟩ := r.tup_inv; exact ⟨true, a, vs, rfl, h1, h2⟩
  | _ => cases h
def dEnum (te : DT) : DI := fun Γ k => te Γ fun ρ Γ1 => ρ.frz fun d => ∃ ds, rowD d = some ds ∧ k (enumD ds) none Γ1
theorem di_enum (hg : Gl X "enumerate") (hm : X.mg "enumerate" = none) (h : DE X ow B e te) (hs : starEach [e] X.env = [(false, eval e X.env)] := by rfl) (hs1 : starEach (e :: []) X.env = (false, eval e X.env) :: starEach [] X.env := by rfl) :
    IE X ow B (.Tuple elts kk tpos) (.Call (.Name "enumerate" p) [e] [] pos) (dEnum te) := (pi_enumB hg hm (pa_cons h pa_nil hs1) hs).conv fun σ H R ⟨Γ, F, w, S, k, q, hk⟩ =>
  ⟨Γ, F, w, S, _, q, fun ρ Γ1 F1 w1 H1 v1 A1 q1 e1 S1 r1 t1 => by
    obtain ⟨d, F1', ⟨ds, ed, q1'⟩, e1', S1', r1'⟩ := S1.frz r1 t1 q1
    obtain ⟨t, a, vs, rfl, z1, z2⟩ := rowD_inv r1' ed
    exact ⟨t, a, vs, rfl, z1.sq S1'.sub, hk _ _ _ _ _ _ _ q1' (e1.trans e1') S1' (wk_enumB z1 z2)⟩⟩
def dZip (te te2 : DT) : DI := fun Γ k => te Γ fun ρ Γ1 => ρ.frz fun d => te2 Γ1 fun ρ2 Γ2 => ρ2.frz fun d2 => ∃ ds es, rowD d = some ds ∧ rowD d2 = some es ∧ k (zipD ds es) none Γ2
theorem di_zip (hg : Gl X "zip") (hm : X.mg "zip" = none) (h : DE X ow B e te) (h2 : DE X ow B e2 te2) (hs : starEach [e, e2] X.env = (false, eval e X.env) :: starEach [e2] X.env := by rfl) (hs2 : starEach (e2 :: []) X.env = (false, eval e2 X.env) :: starEach [] X.env := by rfl) (hpl : (backTo pos (starEach [e2] X.env)).any (·.1) = false := by rfl) :
    IE X ow B (.Tuple elts kk tpos) (.Call (.Name "zip" p) [e, e2] [] pos) (dZip te te2) := (pi_zipB hg hm (pa_cons h (pa_cons h2 pa_nil hs2) hs) hs hpl).conv fun σ H R ⟨Γ, F, w, S, k, q, hk⟩ =>
  ⟨Γ, F, w, S, _, q, fun ρ Γ1 F1 w1 H1 v1 A1 q1 e1 S1 r1 t1 => by
    obtain ⟨d, F1', q1', e1', S1', r1'⟩ := S1.frz r1 t1 q1
    refine ⟨Γ1, F1', w1, S1', _, q1', fun ρ2 Γ2 F2 w2 H2 v2 A2 q2 e2 S2 r2 t2 => ?_⟩
    obtain ⟨d2, F2', ⟨ds, es, ed, ed2, q2'⟩, e2', S2', r2'⟩ := S2.frz r2 t2 q2
    have ee := e2.trans e2'
    obtain ⟨t, a, vs, rfl, z1, z2⟩ := rowD_inv (r1'.mono ee) ed
    obtain ⟨u, b, ws, rfl, z3, z4⟩ := rowD_inv r2' ed2
    exact ⟨t, u, a, b, vs, ws, rfl, z1.sq S2'.sub, z3.sq S2'.sub, hk _ _ _ _ _ _ _ q2' ((e1.trans e1').trans ee) S2' (wk_zipB z1 z2 z3 z4)⟩⟩
/-- a list or a tuple that stands still, walked -/
def dRow (te : DT) : DI := fun Γ k => te Γ fun ρ Γ1 => ρ.frz fun d => ∃ ds, rowD d = some ds ∧ k ds none Γ1
end
end Dn
set_option Elab.async false
set_option linter.all false
set_option maxRecDepth 100000
set_option maxHeartbeats 2000000
/-! # Dn: names handed over, chains, isinstance, xs[i] op= e; short words -/
namespace Dn
open PySem PySem.Spec PyProof.Rows L2

section
variable {X : Cx} {ow : Ow} {B : Bs}
theorem Sim.movT {K : PySem.W.Frag} {Γ : Ge} {F : Hp} {w : Addr → Nat} {σ : L2.St} {H : Hp} {ρ : Rv} {i : Nat} (S : Sim K ow B Γ F w σ H) (hB : B.Top ow) (e1 : Γ[i]? = some (some ρ)) (hi : ow.l.contains i = false) :
    ∃ v A w', σ[i]? = some (some v) ∧ RepR K F H v ρ A ∧ Sim K ow B (Γ.set i none) F w' σ H ∧ Tmp B w' F A := by
  obtain ⟨v, A, w', h1, r, S', h2⟩ := S.mov e1 hi
  refine ⟨v, A, w', h1, r, S', fun a ha => ?_⟩
  obtain ⟨q1, q2, q3, q4⟩ := h2 a ha
  refine ⟨q2, q3, ?_⟩
  rcases q4 with q4 | q4
  · rcases hB a q4 with ht | ⟨j, hj, A', hA', ha'⟩
    · obtain ⟨_, _, _, ps, t4, _⟩ := S.tab a ht
      exact (r.notab ha ps t4).elim
    · obtain ⟨ρ', v', A2, z1, z2, z3, z4, z5, z6⟩ := S.own j hj
      rw [hA'] at z3; cases z3
      have := (z6 a ha').1
      rw [q1] at this
      have e : i = j := by omega
      subst e
      rw [List.contains_iff_mem.mpr hj] at hi
      cases hi
  · exact q4
theorem Sim.put {K : PySem.W.Frag} {Γ : Ge} {F : Hp} {w : Addr → Nat} {σ : L2.St} {H : Hp} {i : Nat} {v : V} {d : D} (S : Sim K ow B Γ F w σ H) (hv : σ[i]? = some (some v)) (r : RepF K F v d) (hi : ow.l.contains i = false) : Sim K ow B (Γ.set i (some (.fro d))) F w σ H := by
  refine ⟨S.sub, S.ff, S.new, S.keep, by rw [List.length_set]; exact S.len, fun j ρ' h => ?_, fun j hj => ?_, S.al, S.tab⟩
  · by_cases hij : i = j
    · subst hij
      have hl : i < Γ.length := by rw [S.len]; exact getElem?_len hv
      rw [List.getElem?_set_self hl] at h
      cases h
      exact ⟨v, [], hv, ⟨r, rfl⟩, fun a ha => by cases ha⟩
    · rw [List.getElem?_set_ne hij] at h
      exact S.slot j ρ' h
  · obtain ⟨ρ', v', A', z1, z⟩ := S.own j hj
    exact ⟨ρ', v', A', by rw [List.getElem?_set_ne (ow_ne hi hj)]; exact z1, z⟩
/-- a name's thing handed over -/
theorem _root_.L2.PE.movVar {e : Expr} {i : Nat} (h : PE X e (tVar i)) (hB : B.Top ow) (hi : ow.l.contains i = false := by rfl) : DE X ow B e (dMov i) := h.conv fun σ H Q ⟨Γ, F, w, S, k, q, hk⟩ => by
  unfold dMov at q
  split at q
  · rename_i ρ e1
    obtain ⟨v, A, w', h1, r, S', t⟩ := S.movT hB e1 hi
    exact ⟨v, h1, hk _ _ _ _ _ _ _ q (Same.refl F) S' r t⟩
  · exact q.elim
/-- a name's thing made to stand still from now on -/
theorem _root_.L2.PE.frzVar {e : Expr} {i : Nat} (h : PE X e (tVar i)) (hB : B.Top ow) (hi : ow.l.contains i = false := by rfl) : DE X ow B e (dFrz i) := h.conv fun σ H Q ⟨Γ, F, w, S, k, q, hk⟩ => by
  unfold dFrz at q
  split at q
  · rename_i ρ e1
    obtain ⟨v, A, w', h1, r, S', t⟩ := S.movT hB e1 hi
    obtain ⟨d, F', q', e', S2, r2⟩ := S'.frz r t q
    have S3 := S2.put h1 r2 hi
    rw [List.set_set] at S3
    exact ⟨v, h1, hk _ _ _ _ _ _ _ q' e' S3 ⟨r2, rfl⟩ Tmp.nil⟩
  · exact q.elim
/-- what comes stands still -/
def dF (t : DT) : DT := fun Γ k => t Γ fun ρ Γ1 => ρ.frz fun d => k (.fro d) Γ1
theorem _root_.L2.PE.fr {e : Expr} {t : DT} (h : DE X ow B e t) : DE X ow B e (dF t) := h.conv fun σ H Q ⟨Γ, F, w, S, k, q, hk⟩ =>
  ⟨Γ, F, w, S, _, q, fun ρ Γ' F' w' H' v A h1 e1 S1 r1 t1 => by
    obtain ⟨d, F2, q2, e2, S2, r2⟩ := S1.frz r1 t1 h1
    exact hk _ _ _ _ _ _ _ q2 (e1.trans e2) S2 ⟨r2, rfl⟩ Tmp.nil⟩
/-! ### a < b < c -/
variable {a b c e : Expr} {pos px p1 : Pos} {ta te tb : DT} {tc : DB}
def dChn (rd rd' : D → D → (Rv → Prop) → Prop) (ta tb : DT) (tc : DB) : DT := fun Γ k => ta Γ fun x Γ1 => x.frz fun d => tb Γ1 fun y Γ2 => y.frz fun e => rd d e fun ρ => ρ.asB fun b => bP b (tc Γ2 fun f Γ3 => rd' e f fun ρ => k ρ Γ3) (k (.fro (.bool false)) Γ2)
theorem chain_conv {K : PySem.W.Frag} {r r' : R2} {rd rd' : D → D → (Rv → Prop) → Prop} (hd : OpD K r rd) (hd' : OpD K r' rd') {σ : L2.St} {H : Hp} {Q : VK} (h : tD K ow B (dChn rd rd' ta tb tc) σ H Q) : tChain r r' (tD K ow B ta) (tD K ow B tb) (tB K ow B tc) σ H Q := by
  obtain ⟨Γ, F, w, S, k, q, hk⟩ := h
  refine ⟨Γ, F, w, S, _, q, fun x Γ1 F1 w1 H1 v A h1 e1 S1 r1 t1 => ?_⟩
  obtain ⟨d, F1', h1', e1', S1', r1'⟩ := S1.frz r1 t1 h1
  refine ⟨Γ1, F1', w1, S1', _, h1', fun y Γ2 F2 w2 H2 v2 A2 h2 e2 S2 r2 t2 => ?_⟩
  obtain ⟨e, F2', h2', e2', S2', r2'⟩ := S2.frz r2 t2 h2
  have ee := (e1.trans e1').trans (e2.trans e2')
  refine hd S2' (.fro (r1'.mono (e2.trans e2'))) (.fro r2') h2' fun ρ F' w' H' v3 A3 k3 e3 S3 r3 t3 => ?_
  obtain ⟨bb, rfl, k3⟩ := Rv.asB_inv k3
  cases bb with
  | true =>
    refine ⟨true, r3.1.bl_inv, iteT ⟨Γ2, F', w', S3, _, k3, fun f Γ4 F4 w4 H4 v4 k4 e4 S4 r4 => ?_⟩⟩
    exact hd' S4 (.fro (r2'.mono (e3.trans e4))) r4 k4 fun ρ F5 w5 H5 v5 A5 k5 e5 S5 r5 t5 => hk ρ _ _ _ _ _ _ k5 ((((ee.trans e3).trans e4)).trans e5) S5 r5 t5
  | false => exact ⟨false, r3.1.bl_inv, iteF (hk _ _ _ _ _ _ _ k3 (ee.trans e3) S3 ⟨.bl false, rfl⟩ Tmp.nil)⟩
theorem de_chain {op op' : CmpOp} {r r' : R2} {rd rd' : D → D → (Rv → Prop) → Prop} (ho : OpR X (compareOp op) r) (ho' : OpR X (compareOp op') r') (hd : OpD X.K r rd) (hd' : OpD X.K r' rd') (ha : DE X ow B a ta) (hb : DE X ow B b tb) (hc : BE X ow B c tc)
    (hm : lastMarks [op, op'] [b, c] = false := by rfl) : DE X ow B (.Compare a [op, op'] [b, c] pos) (dChn rd rd' ta tb tc) :=
  (pe_chain ho ho' ha hb hc hm).conv fun _ _ _ h => chain_conv hd hd' h
theorem dt_chain {op op' : CmpOp} {r r' : R2} {rd rd' : D → D → (Rv → Prop) → Prop} (ho : OpR X (compareOp op) r) (ho' : OpR X (compareOp op') r') (hd : OpD X.K r rd) (hd' : OpD X.K r' rd') (ha : DE X ow B a ta) (hb : DE X ow B b tb) (hc : BE X ow B c tc) (hm : lastMarks [op, op'] [b, c] = false := by rfl) : TTe X ow B (.Compare a [op, op'] [b, c] pos) (dTst (dChn rd rd' ta tb tc)) :=
  (pt_chain ho ho' ha hb hc hm).conv fun σ H Q h => by
    have z := tst_conv h
    exact chain_conv hd hd' z
/-! ### xs[i] op= e -/
def dAugIx (i : Nat) (rd : D → D → (Rv → Prop) → Prop) (tj : DB) (te : DB) : DS := fun D Γ => match Γ[i]? with
  | some (some (.lst _)) => tj Γ fun n Γ1 => match n, Γ1[i]? with
    | .int n, some (some (.lst ds)) => ∃ d, atI ds n = some d ∧ te Γ1 fun e Γ2 => rd d e fun ρ => ρ.frz fun d' => match Γ2[i]? with
        | some (some (.lst es)) => ∃ j, ixN es.length n = some j ∧ D.nx (Γ2.set i (some (.lst (es.set j d'))))
        | _ => False
    | _, _ => False
  | _ => False
theorem get_own : PGet X (rIxL X.K) := by
  intro pins s σ H x y v u Q I rx ry h
  obtain ⟨p, xs, i, z, rfl, rfl, hq, he, q⟩ := h
  cases rx
  obtain ⟨t, rfl⟩ := ry
  obtain ⟨its, r, pl, hz⟩ := I.list hq
  obtain ⟨j, h1, h2, h3, h4, h5⟩ := atI_get he
  obtain ⟨w, ew, rw'⟩ := r.get h2
  have hl := r.length
  have hn := line63
  have fin : EP X pins σ Q w s := ⟨z, H, I, rw', q⟩
  by_cases h0 : 0 ≤ i
  · have hj : i.toNat = j := by
      rw [seqIndex_of h0 h5] at h1
      exact Option.some.inj h1
    exact wpAny_getItem_list (Q := EP X pins σ Q) pl.isList h0 (by omega) (by rw [hj]; simpa using ew) fin
  · have hj : (i + (its.toArray.size : Int)).toNat = j := by
      rw [seqIndex_neg (by omega) h4] at h1
      rw [List.size_toArray, ← hl]
      exact Option.some.inj h1
    exact wpAny_getItem_list_neg (Q := EP X pins σ Q) pl.isList (by omega) (by rw [List.size_toArray] <;> omega) (by omega) (by rw [hj]; simpa using ew) fin
theorem ds_augIx {i : Nat} {x : Str} {op : Operator} {r : R2} {rd : D → D → (Rv → Prop) → Prop} {tj te : DB} (ho : OpR X (inplaceOp op) r) (hd : OpD X.K r rd) (hi : PE X (.Name x px) (tVar i)) (hj : BE X ow B b tj) (he : BE X ow B e te)
    (ha : ∀ ov iv new, augStore b ov iv new = (do holding [new, ov, iv] (setItem ov iv new); release [new, ov, iv] []; pure .next) := by intros; rfl) :
    SE X ow B (.AugAssign (.Subscript (.Name x px) b p1) op e pos) (dAugIx i rd tj te) := (ps_augS (tip := r) hi hj get_own he ho set_list ha).conv fun E σ H ⟨Γ, F, w, S, D, q, ok⟩ => by
  unfold dAugIx at q
  split at q
  · rename_i ds0 e0
    obtain ⟨v, A, h1, _, _⟩ := S.slot i _ e0
    refine ⟨v, h1, Γ, F, w, S, _, q, fun n Γ1 F1 w1 H1 v1 q1 e1 S1 r1 => ?_⟩
    split at q1
    · rename_i n ds e2
      obtain ⟨v', A', h1', r', o'⟩ := S1.slot i _ e2
      rw [h1] at h1'; cases h1'
      obtain ⟨a, vs, rfl, y1, y2, rfl⟩ := id r'
      · obtain ⟨d, ed, q1⟩ := q1
        obtain ⟨z, hz, rz⟩ := atI_rep y2 ed
        refine ⟨a, vs, n, z, rfl, r1.int_inv, SqL.of y1, hz, Γ1, F1, w1, S1, _, q1, fun e' Γ2 F2 w2 H2 v2 q2 ee S2 r2 => ?_⟩
        refine hd S2 (.fro (rz.mono ee)) r2 q2 fun ρ F3 w3 H3 v3 A3 q3 e3 S3 r3 t3 => ?_
        obtain ⟨d', F4, q4, e4, S4, r4⟩ := S3.frz r3 t3 q3
        split at q4
        · rename_i es e5
          · obtain ⟨j, ej, q4⟩ := q4
            obtain ⟨v', A', h1', r', o'⟩ := S4.slot i _ e5
            rw [h1] at h1'; cases h1'
            obtain ⟨a', ws, ea, y3, y4, rfl⟩ := id r'
            cases ea
            have S5 := S4.mut (ρ' := .lst (es.set j d')) (o := .lst (ws.set j v3)) e5 h1 r' ⟨a, _, rfl, upd_same, y4.set r4 j, rfl⟩ (by simp) o'
            exact ⟨a, ws, n, j, rfl, r1.int_inv, y3, by rw [y4.length]; exact ej, ok.nx _ _ _ _ _ q4 ((e1.trans ee).trans (e3.trans e4)) S5⟩
        · exact q4.elim
    · exact q1.elim
  · exact q.elim
/-! ### isinstance -/
def tyD : D → String
  | .none => "NoneType" | .bool _ => "bool" | .int _ => "int" | .str _ => "str" | .list _ => "list" | .tuple _ => "tuple" | .dict _ => "dict"
def isDicD : D → Bool | .dict _ => true | _ => false
theorem tyX_of {K : PySem.W.Frag} {F H : Hp} {v : V} {d : D} (r : RepB K F H v d) (s : Same F H) (hd : isDicD d = false) : TyX K H v (.type (tyD d)) := by
  rcases r with r | ⟨a, vs, ds, rfl, rfl, h, _⟩
  · cases r with
    | dic _ _ => cases hd
    | dit _ _ => cases hd
    | non => exact .base .non
    | bl b => exact .base (.bl b)
    | int i => exact .base (.int i)
    | str x => exact .base (.str x)
    | lst h _ => exact .base (.lst (s _ _ h))
    | tup h _ =>
      rcases h.t with (h | ⟨o, h⟩) | ⟨o, its, n, hk, hc, _⟩
      · exact .base (.tup (s _ _ h))
      · exact .fTuple (s _ _ h)
      · exact .kTuple hk hc
  · exact .base (.lst h)
/-- f: what isinstance(x, T) says -/
def IsT (T : String) (f : D → Bool) : Prop := ∀ d, kitB (tyD d) T = some (f d)
def isLstD : D → Bool | .list _ => true | _ => false
def isTupD : D → Bool | .tuple _ => true | _ => false
def isStrD : D → Bool | .str _ => true | _ => false
def isBlD : D → Bool | .bool _ => true | _ => false
def isIntD : D → Bool | .int _ => true | .bool _ => true | _ => false
theorem isT_of {T : String} {f : D → Bool} (h : kitB "NoneType" T = some (f .none) ∧ (∀ b, kitB "bool" T = some (f (.bool b))) ∧ (∀ b, kitB "int" T = some (f (.int b))) ∧ (∀ b, kitB "str" T = some (f (.str b))) ∧ (∀ b, kitB "list" T = some (f (.list b))) ∧ (∀ b, kitB "tuple" T = some (f (.tuple b))) ∧ ∀ b, kitB "dict" T = some (f (.dict b))) : IsT T f := fun d => by
  obtain ⟨h1, h2, h3, h4, h5, h6, h7⟩ := h
  cases d with
  | none => exact h1
  | bool b => exact h2 b
  | int b => exact h3 b
  | str b => exact h4 b
  | list b => exact h5 b
  | tuple b => exact h6 b
  | dict b => exact h7 b
theorem isT_list : IsT "list" isLstD := isT_of ⟨by decide +kernel, fun _ => by show kitB "bool" "list" = some false; decide +kernel, fun _ => by show kitB "int" "list" = some false; decide +kernel, fun _ => by show kitB "str" "list" = some false; decide +kernel, fun _ => by show kitB "list" "list" = some true; decide +kernel, fun _ => by show kitB "tuple" "list" = some false; decide +kernel, fun _ => by show kitB "dict" "list" = some false; decide +kernel⟩
theorem isT_tuple : IsT "tuple" isTupD := isT_of ⟨by decide +kernel, fun _ => by show kitB "bool" "tuple" = some false; decide +kernel, fun _ => by show kitB "int" "tuple" = some false; decide +kernel, fun _ => by show kitB "str" "tuple" = some false; decide +kernel, fun _ => by show kitB "list" "tuple" = some false; decide +kernel, fun _ => by show kitB "tuple" "tuple" = some true; decide +kernel, fun _ => by show kitB "dict" "tuple" = some false; decide +kernel⟩
theorem isT_str : IsT "str" isStrD := isT_of ⟨by decide +kernel, fun _ => by show kitB "bool" "str" = some false; decide +kernel, fun _ => by show kitB "int" "str" = some false; decide +kernel, fun _ => by show kitB "str" "str" = some true; decide +kernel, fun _ => by show kitB "list" "str" = some false; decide +kernel, fun _ => by show kitB "tuple" "str" = some false; decide +kernel, fun _ => by show kitB "dict" "str" = some false; decide +kernel⟩
theorem isT_bool : IsT "bool" isBlD := isT_of ⟨by decide +kernel, fun _ => by show kitB "bool" "bool" = some true; decide +kernel, fun _ => by show kitB "int" "bool" = some false; decide +kernel, fun _ => by show kitB "str" "bool" = some false; decide +kernel, fun _ => by show kitB "list" "bool" = some false; decide +kernel, fun _ => by show kitB "tuple" "bool" = some false; decide +kernel, fun _ => by show kitB "dict" "bool" = some false; decide +kernel⟩
theorem isT_int : IsT "int" isIntD := isT_of ⟨by decide +kernel, fun _ => by show kitB "bool" "int" = some true; decide +kernel, fun _ => by show kitB "int" "int" = some true; decide +kernel, fun _ => by show kitB "str" "int" = some false; decide +kernel, fun _ => by show kitB "list" "int" = some false; decide +kernel, fun _ => by show kitB "tuple" "int" = some false; decide +kernel, fun _ => by show kitB "dict" "int" = some false; decide +kernel⟩
/-- d is no dict -/
def nDic : D → Prop → Prop
  | .dict _, _ => False
  | _, p => p
theorem nDic_inv {d : D} {p : Prop} (h : nDic d p) : isDicD d = false ∧ p := by cases d <;> first | exact ⟨rfl, h⟩ | exact h.elim
def dIs (f : D → Bool) (t : DB) : DT := fun Γ k => t Γ fun d Γ1 => nDic d (k (.fro (.bool (f d))) Γ1)
variable {p pt : Pos} {tx : DB}
theorem de_isi {T : String} {Tn : Str} {f : D → Bool} (hT : IsT T f) (hg : Gl X "isinstance") (hm : X.mg "isinstance" = none) (hgT : Gl X Tn) (hmT : X.mg Tn = none) (hv : bootBuiltins Tn = some (.type T)) (he : BE X ow B e tx) (hdb : (Tn == ("__debug__" : Str)) = false := by decide) (hnn : Tn ≠ "__name__" := by decide)
    (h1 : starEach [e, .Name Tn pt] X.env = (false, eval e X.env) :: starEach [.Name Tn pt] X.env := by rfl) (h2 : starEach (.Name Tn pt :: []) X.env = (false, eval (.Name Tn pt) X.env) :: starEach [] X.env := by rfl) (hpl : (backTo pos (starEach [.Name Tn pt] X.env)).any (·.1) = false := by rfl) :
    DE X ow B (.Call (.Name "isinstance" p) [e, .Name Tn pt] [] pos) (dIs f tx) :=
  (pe_callB call_isi hg hm boot_isinstance (pa_cons he (pa_cons (pe_bltn hgT hmT hv (v := .ty T) rfl hnn hdb) pa_nil h2) h1) (by decide) (by decide) h1 hpl).conv fun σ H Q ⟨Γ, F, w, S, k, q, hk⟩ =>
    ⟨Γ, F, w, S, _, q, fun d Γ1 F1 w1 H1 v q1 e1 S1 r1 => ⟨v, .ty T, .type (tyD d), .type T, f d, rfl, .ty T, tyX_of r1 S1.sub (nDic_inv q1).1, kit_ty (hT d), hk _ _ _ _ _ _ _ (nDic_inv q1).2 e1 S1 ⟨.bl _, rfl⟩ Tmp.nil⟩⟩
/-- isinstance(x, (S, T)) -/
theorem de_isi2 {T U : String} {Tn Un : Str} {f g : D → Bool} {kt : Nat} {pu pq : Pos} (hT : IsT T f) (hU : IsT U g) (hg : Gl X "isinstance") (hm : X.mg "isinstance" = none) (hgT : Gl X Tn) (hmT : X.mg Tn = none) (hv : bootBuiltins Tn = some (.type T)) (hgU : Gl X Un) (hmU : X.mg Un = none) (hvU : bootBuiltins Un = some (.type U)) (he : BE X ow B e tx)
    (hdb : (Tn == ("__debug__" : Str)) = false := by decide) (hnn : Tn ≠ "__name__" := by decide) (hdbU : (Un == ("__debug__" : Str)) = false := by decide) (hnnU : Un ≠ "__name__" := by decide)
    (h1 : starEach [e, .Tuple [.Name Tn pt, .Name Un pu] kt pq] X.env = (false, eval e X.env) :: starEach [.Tuple [.Name Tn pt, .Name Un pu] kt pq] X.env := by rfl) (h2 : starEach (.Tuple [.Name Tn pt, .Name Un pu] kt pq :: []) X.env = (false, eval (.Tuple [.Name Tn pt, .Name Un pu] kt pq) X.env) :: starEach [] X.env := by rfl) (hpl : (backTo pos (starEach [.Tuple [.Name Tn pt, .Name Un pu] kt pq] X.env)).any (·.1) = false := by rfl)
    (h3 : starEach (.Name Tn pt :: [.Name Un pu]) X.env = (false, eval (.Name Tn pt) X.env) :: starEach [.Name Un pu] X.env := by rfl) (h4 : starEach (.Name Un pu :: []) X.env = (false, eval (.Name Un pu) X.env) :: starEach [] X.env := by rfl) :
    DE X ow B (.Call (.Name "isinstance" p) [e, .Tuple [.Name Tn pt, .Name Un pu] kt pq] [] pos) (dIs (fun d => f d || g d) tx) :=
  (pe_callB call_isiT hg hm boot_isinstance (pa_cons he (pa_cons (pe_tup (pa_cons (pe_bltn hgT hmT hv (v := .ty T) rfl hnn hdb) (pa_cons (pe_bltn hgU hmU hvU (v := .ty U) rfl hnnU hdbU) pa_nil h4) h3)) pa_nil h2) h1) (by decide) (by decide) h1 hpl).conv fun σ H Q ⟨Γ, F, w, S, k, q, hk⟩ =>
    ⟨Γ, F, w, S, _, q, fun d Γ1 F1 w1 H1 v q1 e1 S1 r1 => ⟨by show 2 ≤ sizeLine; rw [sizeLine_eq]; omega, fun tp htp => by
      have S2 : Sim X.K ow B Γ1 F1 (wset w1 tp 0) σ (upd H1 tp (.tup [.ty T, .ty U])) := S1.grow (same_upd htp) fun b hb => wset_ne fun e => hb (by rw [e]; exact htp)
      have ty := tyX_of r1 S1.sub (nDic_inv q1).1
      have ty2 : TyX X.K (upd H1 tp (.tup [.ty T, .ty U])) v (.type (tyD d)) := tyX_of (by
        rcases r1 with r1 | ⟨a, vs, ds, z1, z2, z3, z4⟩
        · exact .inl r1
        · exact .inr ⟨a, vs, ds, z1, z2, same_upd htp _ _ z3, z4⟩) S2.sub (nDic_inv q1).1
      refine ⟨v, tp, [.ty T, .ty U], .type (tyD d), [.type T, .type U], f d || g d, rfl, upd_same, .cons (.ty T) (.cons (.ty U) .nil), ty2, ?_, hk _ _ _ _ _ _ _ (nDic_inv q1).2 e1 S2 ⟨.bl _, rfl⟩ Tmp.nil⟩
      have k1 : PySem.W.kitOne X.K (.type (tyD d)) (.type T) = some (f d) := kit_ty (hT d)
      have k2 : PySem.W.kitOne X.K (.type (tyD d)) (.type U) = some (g d) := kit_ty (hU d)
      unfold PySem.W.kitAny
      rw [k1]
      cases f d with
      | true => rfl
      | false =>
        show PySem.W.kitAny X.K _ _ = _
        unfold PySem.W.kitAny
        rw [k2]
        cases g d <;> rfl⟩⟩
end
/-! ### short words -/
/-- a def that may be called: it keeps the promise p at the level k -/
def Cal (P : Program) (w : World) (K : PySem.W.Frag) (mg : Str → Option Value) (base : Heap) (T : Addr → Prop) (k : Nat) (x : Str) (ps : List Str) (p : DSp) : Prop :=
  ∃ f fd, FnOk P w K mg base CX0 k f fd ps (spD K T p) ∧ mg x = some (.ref f) ∧ PySem.W.keepIn K (.ref f) = true ∧ Binds K fd ps []
theorem Cal.up {P : Program} {w : World} {K : PySem.W.Frag} {mg : Str → Option Value} {base : Heap} {T : Addr → Prop} {j k : Nat} {x : Str} {ps : List Str} {p : DSp} (c : Cal P w K mg base T j x ps p) (h : j ≤ k) : Cal P w K mg base T k x ps p := by
  obtain ⟨f, fd, F, r⟩ := c
  exact ⟨f, fd, F.mono h, r⟩
section
variable {X : Cx} {ow : Ow} {B : Bs} {k : Nat} {ps : List Str} {x : Str} {p pos : Pos} {e : Expr} {es : List Expr} {ta : DAr}
theorem ce {sp : DSp} {T : Addr → Prop} (c : Cal X.prog X.w X.K X.mg X.base T k x ps sp) (hr : Room k X.A) (ha : ArE X ow B (e :: es) ta) (hT : ow.T = T := by rfl) (hg : Gl X x := by rfl) (hdb : (x == ("__debug__" : Str)) = false := by decide) (he : starEach (e :: es) X.env = (false, eval e X.env) :: starEach es X.env := by rfl) (hpl : (backTo pos (starEach es X.env)).any (·.1) = false := by rfl) :
    DE X ow B (.Call (.Name x p) (e :: es) [] pos) (dCall sp ta) := by
  subst hT
  obtain ⟨f, fd, F, hm, hk, hb⟩ := c
  exact de_call F hr hg hm hk hb pass0 ha hdb he hpl
/-- a name that stands still; looked at; as a test -/
theorem nv (i : Nat) {y : Str} (hN : X.N[i]? = some y := by rfl) (hv : Vis X.env.scope y := by first | exact Or.inl rfl | exact Or.inr (Or.inl rfl) | exact Or.inr (Or.inr rfl)) (hd : (y == ("__debug__" : Str)) = false := by decide)
    (hcd : (y == ("__classdict__" : Str)) = false := by decide) : DE X ow B (.Name y pos) (dVar i) := (pv i hN hv hd hcd).ofVar
theorem nb (i : Nat) {y : Str} (hN : X.N[i]? = some y := by rfl) (hv : Vis X.env.scope y := by first | exact Or.inl rfl | exact Or.inr (Or.inl rfl) | exact Or.inr (Or.inr rfl)) (hd : (y == ("__debug__" : Str)) = false := by decide)
    (hcd : (y == ("__classdict__" : Str)) = false := by decide) : BE X ow B (.Name y pos) (dBor i) := (pv i hN hv hd hcd).borVar
theorem nt (i : Nat) {y : Str} (hN : X.N[i]? = some y := by rfl) (hv : Vis X.env.scope y := by first | exact Or.inl rfl | exact Or.inr (Or.inl rfl) | exact Or.inr (Or.inr rfl)) (hd : (y == ("__debug__" : Str)) = false := by decide)
    (hcd : (y == ("__classdict__" : Str)) = false := by decide) : TTe X ow B (.Name y pos) (dTruV i) := (pv i hN hv hd hcd).truVar
end
end Dn
set_option Elab.async false
set_option linter.all false
set_option maxRecDepth 100000
set_option maxHeartbeats 2000000
/-! # Dn: all, any of a generator expression over a row; its element is quiet: it calls no def -/
namespace Dn
open PySem PySem.Spec PyProof.Rows L2

/-! ### quiet expressions -/
/-- the generator's own env -/
abbrev gEnv (X : Cx) (scope : Scope) (C : Addr) (code : Value) (bi : Addr) : Env := genEnv scope (cloFrom X.env.cells scope.names []) C code bi X.env
/-- what a turn may lean on: the item, the heap as it was -/
structure Qs (X : Cx) (scope : Scope) (x : Str) (P : Addr) (s1 : Shared) (C : Addr) (u : Value) (s : Shared) : Prop where
  item : ∃ m, s.heap.Ns C m ∧ m x = some u
  kept : ∀ b o, b ≠ P → s1.heap.get? b = some o → s.heap.get? b = some o
theorem Qs.keeps {X : Cx} {scope : Scope} {x : Str} {P : Addr} {s1 : Shared} {C : Addr} {u : Value} {s s' : Shared} (q : Qs X scope x P s1 C u s) (k : Keeps s s') : Qs X scope x P s1 C u s' := by
  obtain ⟨h, tk, rfl, kk⟩ := k
  obtain ⟨m, n, e⟩ := q.item
  exact ⟨⟨m, n.at' fun o z => kk _ o z, e⟩, fun b o nb z => kk b o (q.kept b o nb z)⟩
/-- e is worth v in that turn -/
def Qe (X : Cx) (scope : Scope) (x : Str) (P : Addr) (s1 : Shared) (C : Addr) (code : Value) (bi : Addr) (u : Value) (e : Expr) (v : V) : Prop :=
  ∀ (A' : Around) (E' : Value → Shared → Prop) (s : Shared), A'.handled = none → A'.depth ≤ X.A.depth + 1 → A'.units ≤ X.A.units + 8 → Qs X scope x P s1 C u s → wpAny (model X.prog X.w) A' (eval e (gEnv X scope C code bi)) (fun y s' => RelV v y ∧ Keeps s s') E' s
section
variable {X : Cx} {scope : Scope} {x : Str} {P : Addr} {s1 : Shared} {C : Addr} {code : Value} {bi : Addr} {u : Value} {a b : Expr} {v : V} {i j : Int} {pos : Pos}
theorem keeps_toks (s : Shared) (t : Nat) : Keeps s { s with toks := t } := ⟨s.heap, t, rfl, fun _ _ z => z⟩
theorem keeps_id (s : Shared) : Keeps s s := keeps_toks s s.toks
theorem keeps_tr {s s' s2 : Shared} (a : Keeps s s') (b : Keeps s' s2) : Keeps s s2 := by
  obtain ⟨h, t, rfl, k⟩ := a
  obtain ⟨h2, t2, rfl, k2⟩ := b
  exact ⟨h2, t2, rfl, fun b o z => k2 b o (k b o z)⟩
theorem q_item (hk : scope.kind = .function) (hl : scope.names.lookup x = some .local) (r : RelV v u) (hd : (x == ("__debug__" : Str)) = false := by decide) : Qe X scope x P s1 C code bi u (.Name x pos) v := by
  intro A' E' s h1 h2 h3 q
  obtain ⟨m, n, e⟩ := q.item
  exact wpAny_Name (wpAny_loadName_local hk hl n e ⟨r, keeps_id s⟩) hd
theorem q_int {k : Int} {jj} : Qe X scope x P s1 C code bi u (.Constant (.int k) jj pos) (.int k) := by
  intro A' E' s h1 h2 h3 q
  exact wpAny_Constant_int ⟨⟨_, rfl⟩, keeps_toks _ _⟩
theorem q_bin {op : Operator} {g : Int → Int → Int} (rule : ∀ (A : Around) (t t' : Tok) (s : Shared) (Q : Value → Shared → Prop) (E : Value → Shared → Prop), Q (.int (g i j) s.toks) { s with toks := s.toks + 1 } → wpAny (model X.prog X.w) A (binaryOp op (.int i t) (.int j t')) Q E s)
    (ha : Qe X scope x P s1 C code bi u a (.int i)) (hb : Qe X scope x P s1 C code bi u b (.int j)) : Qe X scope x P s1 C code bi u (.BinOp a op b pos) (.int (g i j)) := by
  intro A' E' s h1 h2 h3 q
  refine wpAny_BinOp (wpAny_mono (ha A' E' s h1 h2 h3 q) (fun y s2 ⟨r1, k1⟩ => wpAny_mono (hb A' E' s2 h1 h2 h3 (q.keeps k1)) (fun z s3 ⟨r2, k2⟩ => ?_) fun _ _ e => e) fun _ _ e => e)
  obtain ⟨t, rfl⟩ := r1
  obtain ⟨t', rfl⟩ := r2
  exact rule A' t t' s3 _ _ ⟨⟨_, rfl⟩, keeps_tr (keeps_tr k1 k2) (keeps_toks _ _)⟩
theorem q_mod (hj : 0 < j) (ha : Qe X scope x P s1 C code bi u a (.int i)) (hb : Qe X scope x P s1 C code bi u b (.int j)) : Qe X scope x P s1 C code bi u (.BinOp a .Mod b pos) (.int (i % j)) :=
  q_bin (fun A t t' s Q E q => mod_int' (by omega) (by rw [Int.fmod_eq_emod_of_nonneg i (by omega)]; exact q)) ha hb
theorem q_cmpI {op : CmpOp} {g : Int → Int → Bool} (rule : ∀ (A : Around) (t t' : Tok) (s : Shared) (Q : Value → Shared → Prop) (E : Value → Shared → Prop), Q (.bool (g i j)) s → wpAny (model X.prog X.w) A (compareOp op (.int i t) (.int j t')) Q E s)
    (ha : Qe X scope x P s1 C code bi u a (.int i)) (hb : Qe X scope x P s1 C code bi u b (.int j)) (hm : behindInMarks op b = false := by first | exact nomark _ | rfl) : Qe X scope x P s1 C code bi u (.Compare a [op] [b] pos) (.bl (g i j)) := by
  intro A' E' s h1 h2 h3 q
  refine wpAny_Compare1 (wpAny_mono (ha A' E' s h1 h2 h3 q) (fun y s2 ⟨r1, k1⟩ => wpAny_mono (hb A' E' s2 h1 h2 h3 (q.keeps k1)) (fun z s3 ⟨r2, k2⟩ => ?_) fun _ _ e => e) fun _ _ e => e) hm
  obtain ⟨t, rfl⟩ := r1
  obtain ⟨t', rfl⟩ := r2
  exact rule A' t t' s3 _ _ ⟨rfl, keeps_tr k1 k2⟩
theorem q_eqI (ha : Qe X scope x P s1 C code bi u a (.int i)) (hb : Qe X scope x P s1 C code bi u b (.int j)) : Qe X scope x P s1 C code bi u (.Compare a [.Eq] [b] pos) (.bl (i == j)) :=
  q_cmpI (op := .Eq) (g := fun i j => i == j) (fun A t t' s Q E q => eq_int q) ha hb
end
/-! ### the generator over a row -/
/-- g is a generator of the values f 0, f 1, .., n of them, ready in s; H1: what was held before -/
def GenRdy (X : Cx) (pins : List (Addr × Obj)) (σ : L2.St) (H1 : Hp) (P : Addr) (n : Nat) (f : Nat → V) (g : Addr) (s : Shared) : Prop :=
  ∃ (fp wr : List Addr) (G : Array GenState → Array GenState → Prop) (St : Nat → Shared → Prop), WalksS X.prog X.w X.A.in1 g fp wr G n (fun i y => RelV (f i) y) St ∧ St 0 s ∧ (∀ b ∈ fp, b < s.heap.objs.size) ∧ ∀ s', Moved wr G s s' → ∃ H2, GxR.Tabbed P H1 H2 ∧ Inv X pins σ H2 s'
section
variable {X : Cx} {pins : List (Addr × Obj)} {σ : L2.St} {H : Hp} {s : Shared}
theorem walks_B {prog : Program} {w : World} {A : Around} (hh : A.handled = none) (t : Bool) (it a : Addr) (hne : a ≠ it) (its : Array Value) :
    Walks prog w A it [it, a] [it] its.size (fun i v => its[i]? = some v) (fun i h => IterB t h it a i ∧ IsB t h a its) := by
  cases t with
  | true => exact Walks.tuple hh it a hne its
  | false => exact Walks.list hh it a hne its
theorem gen_row {t : Bool} {a c P : Addr} {vs : List V} {f : Nat → V} {elt : Expr} {x : Str} {gpos : Pos} {scope : Scope} {k : Nat} {Q' : Value → Shared → Prop} {H1 : Hp} {s1 : Shared}
    (hr : Room k X.A) (TB : GxR.TabB X.base X.mg c P) (hcode : X.env.code = .ref c) (S : GxR.GenS X.env scope x) (I1 : Inv X pins σ H1 s1) (hq : SqB X.K t H1 a vs) (hT : GxR.TabG H1 P)
    (hel : ∀ C code bi (i : Nat) v u, vs[i]? = some v → RelV v u → Qe X scope x P s1 C code bi u elt (f i))
    (hQ : ∀ g s5, GenRdy X pins σ H1 P vs.length f g s5 → Q' (.ref g) s5) :
    wpAny (model X.prog X.w) X.A (pyIter (.ref a)) (fun it s₂ => s₂.heap.NoLimit ∧
      wpAny (model X.prog X.w) X.A (genexprCode X.env gpos (X.env.qual ++ "<genexpr>") scope) (fun code s₃ => wpAny (model X.prog X.w) X.A (builtinsFor X.env.globals X.env.builtins) (fun bi s₄ =>
        ∃ I fp wr n₀ P St₀ pz F, it = .ref I ∧ (∀ A' : Around, A'.handled = none → Walks X.prog X.w A' I fp wr n₀ P St₀) ∧ St₀ 0 s₄.heap ∧ (∀ b ∈ fp, b < s₄.heap.objs.size) ∧ s₄.heap.NoLimit ∧ cStatics ∉ wr ∧
          (∀ href : Heap, (∀ b o, s₄.heap.get? b = some o → href.get? b = some o) →
            QuietGenD X.prog X.w (genEnv scope (cloFrom X.env.cells scope.names []) s₄.heap.objs.size code bi X.env) x [] elt (List.range s₄.heap.objs.size) wr P pz F href (X.A.depth + 1) (X.A.units + 8)) ∧
          (∀ a h₅ tk gs, gs.bare = true → s₄.heap.objs.size < a → h₅.objs.size = a + 1 → (∀ b o, s₄.heap.get? b = some o → h₅.get? b = some o) →
            WalksS X.prog X.w X.A.in4 a (a :: s₄.heap.objs.size :: List.range s₄.heap.objs.size) (s₄.heap.objs.size :: wr) (GenOnlyQ s₄.gens.size) (passing pz n₀ 0).length
              (fun j y => ∃ i, (passing pz n₀ 0)[j]? = some i ∧ F i y) (GenAt X.prog X.w X.A.in4 a s₄.gens.size s₄.heap.objs.size (List.range s₄.heap.objs.size) wr pz n₀ F) →
            GenAt X.prog X.w X.A.in4 a s₄.gens.size s₄.heap.objs.size (List.range s₄.heap.objs.size) wr pz n₀ F 0 { s₄ with gens := s₄.gens.push gs, toks := tk, heap := h₅ } →
            Q' (.ref a) { s₄ with gens := s₄.gens.push gs, toks := tk, heap := h₅ })) X.xe s₃) X.xe s₂) X.xe s1 := by
  obtain ⟨ps, hP, ht⟩ := hT
  obtain ⟨its, rv, pB, hz⟩ := inv_sqB I1 hq
  have lenV := rv.length
  refine (begins_B t a its.toArray).iter X.prog X.w X.A X.xe s1 _ pB ?_
  have at1 : s1.heap.get? P = some { cls := .none, data := .fields ps } := I1.hok P _ hP
  have ltP : P < s1.heap.objs.size := Heap.lt_size at1
  have at2 : (s1.heap.push (iterO t a)).get? P = some { cls := .none, data := .fields ps } := Heap.get?_push_of_some _ at1
  have chd : PySem.W.CodeHd (s1.heap.push (iterO t a)) c P := TB.code.keeps fun b z e => Heap.get?_push_of_some _ (I1.bk b z e)
  have nl2 : (s1.heap.push (iterO t a)).NoLimit := I1.nolimit.push _
  have atI : (s1.heap.push (iterO t a)).get? s1.heap.objs.size = some (iterO t a) := Heap.get?_push_size _ (begins_B t a its.toArray).free
  have la : a < s1.heap.objs.size := isB_lt pB
  have tail : ∀ (code : Value) (h3 : Heap) (tk : Nat) (ps' : Array Value), Heap.ExtBut P (s1.heap.push (iterO t a)) h3 → (s1.heap.push (iterO t a)).objs.size ≤ h3.objs.size → h3.get? P = some { cls := .none, data := .fields ps' } → (∃ more, ps' = ps ++ more) → TriplesOk ps'.toList →
      wpAny (model X.prog X.w) X.A (builtinsFor X.env.globals X.env.builtins) (fun bi s₄ =>
        ∃ Ia fp wr n₀ Pf St₀ pz F, Value.ref s1.heap.objs.size = .ref Ia ∧ (∀ A' : Around, A'.handled = none → Walks X.prog X.w A' Ia fp wr n₀ Pf St₀) ∧ St₀ 0 s₄.heap ∧ (∀ b ∈ fp, b < s₄.heap.objs.size) ∧ s₄.heap.NoLimit ∧ cStatics ∉ wr ∧
          (∀ href : Heap, (∀ b o, s₄.heap.get? b = some o → href.get? b = some o) →
            QuietGenD X.prog X.w (genEnv scope (cloFrom X.env.cells scope.names []) s₄.heap.objs.size code bi X.env) x [] elt (List.range s₄.heap.objs.size) wr Pf pz F href (X.A.depth + 1) (X.A.units + 8)) ∧
          (∀ a h₅ tk gs, gs.bare = true → s₄.heap.objs.size < a → h₅.objs.size = a + 1 → (∀ b o, s₄.heap.get? b = some o → h₅.get? b = some o) →
            WalksS X.prog X.w X.A.in4 a (a :: s₄.heap.objs.size :: List.range s₄.heap.objs.size) (s₄.heap.objs.size :: wr) (GenOnlyQ s₄.gens.size) (passing pz n₀ 0).length
              (fun j y => ∃ i, (passing pz n₀ 0)[j]? = some i ∧ F i y) (GenAt X.prog X.w X.A.in4 a s₄.gens.size s₄.heap.objs.size (List.range s₄.heap.objs.size) wr pz n₀ F) →
            GenAt X.prog X.w X.A.in4 a s₄.gens.size s₄.heap.objs.size (List.range s₄.heap.objs.size) wr pz n₀ F 0 { s₄ with gens := s₄.gens.push gs, toks := tk, heap := h₅ } →
            Q' (.ref a) { s₄ with gens := s₄.gens.push gs, toks := tk, heap := h₅ })) X.xe { s1 with heap := h3, toks := tk } := by
    intro code h3 tk ps' hx hsz hP3 hmore ht3
    obtain ⟨bm, ob, e1, e2, e3, e4, e5, e6, e7, e8⟩ := TB.bm
    have neS : cStatics ≠ P := fun e => by
      obtain ⟨_, hns, _⟩ := I1.nolimit
      obtain ⟨o', es, ep, ho, hd, _⟩ := hns
      rw [e, at1] at ho
      cases ho
      cases hd
    have ltS : cStatics < s1.heap.objs.size := let ⟨_, hns, _⟩ := I1.nolimit; hns.lt
    have sz2 : (s1.heap.push (iterO t a)).objs.size = s1.heap.objs.size + 1 := Heap.size_push ..
    have k3 : ∀ b u, b ≠ P → s1.heap.get? b = some u → h3.get? b = some u := fun b u hb e => hx b u hb (Heap.get?_push_of_some _ e)
    have neP : s1.heap.objs.size ≠ P := fun e => by rw [← e] at ltP; exact Nat.lt_irrefl _ ltP
    refine wpAny_builtinsFor (m := X.mg) (by rw [I1.ok.glob]; exact ((I1.mod.glob.keeps I1.bk).push _).extBut hx TB.gP) e1 e2 (k3 _ _ e4 (I1.bk _ _ e5)) e6 e7 e8 ?_
    have naP : a ≠ P := fun e => by
      subst e
      cases t with
      | true => obtain ⟨o, ho, hc, _⟩ := pB; rw [at1] at ho; cases ho; cases hc
      | false => obtain ⟨o, ho, hc, _⟩ := pB; rw [at1] at ho; cases ho; cases hc
    refine ⟨s1.heap.objs.size, [s1.heap.objs.size, a], [s1.heap.objs.size], its.toArray.size, (fun i v => its.toArray[i]? = some v), (fun i h => IterB t h s1.heap.objs.size a i ∧ IsB t h a its.toArray), (fun _ => true), (fun i y => RelV (f i) y), rfl,
      (fun A' hA => walks_B hA t _ a (Nat.ne_of_lt la) its.toArray), ⟨iterB_new t (hx _ _ neP atI), isB_at pB fun o e => k3 _ _ naP e⟩, ?_, nl2.extBut hx neS, ?_, ?_, ?_⟩
    · intro b hb
      have hlt : s1.heap.objs.size < h3.objs.size := by omega
      rcases (show b = s1.heap.objs.size ∨ b = a by simpa using hb) with z | z
      · rw [z]; exact hlt
      · rw [z]; exact Nat.lt_trans la hlt
    · intro z
      rw [List.mem_singleton.mp z] at ltS
      exact Nat.lt_irrefl _ ltS
    · intro href hhref
      refine ⟨fun A' E' i v s₂ m₂ hA hD hU hPv hn hm hk => ?_, fun A' E' i v s₂ m₂ hA hD hU hPv hp hn hm hk => ?_⟩
      · simp only [List.forIn_nil]
        exact wpAny_pure ⟨rfl, keeps_id _⟩
      · have hi' : its[i]? = some v := by simpa using hPv
        have hlt : i < vs.length := by have := getElem?_len hi'; omega
        obtain ⟨u', hu', ru'⟩ := rv.get (List.getElem?_eq_getElem hlt)
        rw [hi'] at hu'; cases hu'
        refine hel _ code _ i _ v (List.getElem?_eq_getElem hlt) ru' A' E' s₂ hA hD hU ⟨⟨m₂, hn, hm⟩, fun b o nb e => ?_⟩
        have h3b := k3 b o nb e
        exact hk b (List.mem_range.mpr (Heap.lt_size h3b)) (fun z => Nat.lt_irrefl _ (by have := Heap.lt_size e; rw [List.mem_singleton.mp z] at this; exact this)) o (hhref b o h3b)
    · intro g h5 tk5 gs hgb hag hsz5 hk5 W5 hat
      simp only [GxR.passing_true, List.length_range] at W5
      have eV : its.toArray.size = vs.length := by simpa using lenV.symm
      rw [eV] at W5 hat
      have W6 : WalksS X.prog X.w X.A.in4 g (g :: h3.objs.size :: List.range h3.objs.size) (h3.objs.size :: [s1.heap.objs.size]) (GenOnlyQ s1.gens.size) vs.length (fun i y => RelV (f i) y) (GenAt X.prog X.w X.A.in4 g s1.gens.size h3.objs.size (List.range h3.objs.size) [s1.heap.objs.size] (fun _ => true) vs.length fun i y => RelV (f i) y) := by
        exact ⟨W5.sub, W5.grefl, W5.gtrans, W5.frame, fun j s Q E hj st hQ => W5.item j s Q E hj st fun v s' hv => hQ v s' (by
          obtain ⟨i, hi, r⟩ := hv
          obtain ⟨h9, ej⟩ := List.getElem?_eq_some_iff.mp hi
          rw [List.getElem_range] at ej
          rw [ej]; exact r), W5.done, W5.self⟩
      refine hQ g _ ⟨_, _, _, _, W6.in4_1, hat, fun b hb => ?_, fun s' hm => ?_⟩
      · show b < h5.objs.size
        rcases List.mem_cons.mp hb with z | hb
        · rw [z, hsz5]; exact Nat.lt_succ_self _
        · have hlt : b ≤ h3.objs.size := by
            rcases List.mem_cons.mp hb with z | hb
            · rw [z]; exact Nat.le_refl _
            · exact Nat.le_of_lt (List.mem_range.mp hb)
          have hag' : h3.objs.size < g := hag
          have e9 : h5.objs.size = g + 1 := hsz5
          have : b < g + 1 := Nat.lt_succ_of_lt (Nat.lt_of_le_of_lt hlt hag')
          rw [e9]; exact this
      · obtain ⟨more, em⟩ := hmore
        have nwr : ∀ b u, s1.heap.get? b = some u → b ∉ h3.objs.size :: [s1.heap.objs.size] := fun b u e hb => by
          have hl := Heap.lt_size e
          rcases List.mem_cons.mp hb with z | z
          · rw [z] at hl
            have h9 : (h3.objs.size : Nat) < s1.heap.objs.size := hl
            omega
          · rw [List.mem_singleton.mp z] at hl
            exact Nat.lt_irrefl _ hl
        have J := GxR.inv_tab (more := more) (h' := s'.heap) (g' := s'.gens) (d' := s'.drawn) (t' := s'.toks) I1 hP (fun b u hb e => hm.heap b u (nwr b u e) (hk5 b u (k3 b u hb e)))
          (by rw [← em]; exact hm.heap P _ (nwr P _ at1) (hk5 P _ hP3)) (AllBare.movedS (I1.bare.push hgb) hm)
        rw [GxR.sh_eta s1 s' hm.os] at J
        exact ⟨upd H1 P (.tbl (ps ++ more)), ⟨⟨ps ++ more, upd_same, by rw [← em]; exact ht3⟩, fun b hb => upd_ne hb⟩, J⟩
  refine ⟨nl2, ?_⟩
  cases hf : codeAmong gpos ps.toList with
  | none =>
    refine wpAny_genexprCodeX hcode (chd.code at2 ht) (chd.tab at2) hf fun c' h' tk hx hge hlt hco' _ htab' _ => ?_
    obtain ⟨o1, vs1, f1, tf, fl, tg, inF, tx, tt, op, _, _, _, _, _, _, _, _, _, htr, _⟩ := hco'
    exact tail _ h' tk _ hx (Nat.le_trans hge (Nat.le_of_lt hlt)) htab'.2 ⟨_, rfl⟩ htr
  | some cv =>
    refine wpAny_genexprCode_hit hcode (chd.code at2 ht) hf ?_
    exact tail cv (s1.heap.push (iterO t a)) s1.toks ps (Heap.ExtBut.refl _ _) (Nat.le_refl _) at2 ⟨#[], by simp⟩ ht
/-- all, any (test for x in e) -/
theorem gen_eval {c P : Addr} {elt iter : Expr} {x : Str} {px gpos : Pos} {scope : Scope} {te : TE} {k : Nat} {Q' : Value → Shared → Prop}
    (hr : Room k X.A) (TB : GxR.TabB X.base X.mg c P) (hcode : X.env.code = .ref c) (S : GxR.GenS X.env scope x) (hi : PE X iter te) (hs : ∀ v, genFold iter X.env v = pure v) (I : Inv X pins σ H s)
    (h : te σ H fun v H1 => ∃ t a vs f, v = .ref a ∧ SqB X.K t H1 a vs ∧ GxR.TabG H1 P ∧ (∀ s1, Inv X pins σ H1 s1 → ∀ C code bi (i : Nat) v u, vs[i]? = some v → RelV v u → Qe X scope x P s1 C code bi u elt (f i)) ∧ ∀ g s5, GenRdy X pins σ H1 P vs.length f g s5 → Q' (.ref g) s5) :
    wpAny (model X.prog X.w) X.A (eval (.GeneratorExp elt [⟨.Name x px, iter, [], 0⟩] scope gpos) X.env) Q' X.xe s := by
  refine wpAny_GeneratorExp_walksQD hr.hd S.co (closure_ok S.free) S.cell S.dot S.loc S.kind (by have := hr.dp; omega) ?_ hs
  refine thn (hi.run pins s σ H _ I h) fun xv s1 ⟨v, H1, I1, r1, q1⟩ => ?_
  obtain ⟨t, a, vs, f, rfl, hq, hT, hel, hQ⟩ := q1
  cases r1
  exact gen_row hr TB hcode S I1 hq hT (fun C code bi i v u => hel s1 I1 C code bi i v u) hQ
end
section
variable {X : Cx} {ow : Ow} {B : Bs} {elt iter : Expr} {x : Str} {px p pos gpos : Pos} {scope : Scope} {te : DT} {c P : Addr} {k : Nat}
/-- the element's test of each item: f d -/
def QEl (X : Cx) (scope : Scope) (x : Str) (P : Addr) (elt : Expr) (f : D → Option Bool) : Prop := ∀ (F : Hp) (d : D) (b : Bool) (v : V) (u : Value) (s1 : Shared) (C : Addr) (code : Value) (bi : Addr), RepF X.K F v d → RelV v u → f d = some b → Qe X scope x P s1 C code bi u elt (.bl b)
/-- the tests of a row -/
def testsD (f : D → Option Bool) : List D → Option (List Bool)
  | [] => some []
  | d :: ds => match f d, testsD f ds with
    | some b, some bs => some (b :: bs)
    | _, _ => none
theorem testsD_get {f : D → Option Bool} : ∀ {ds : List D} {bs : List Bool}, testsD f ds = some bs → bs.length = ds.length ∧ ∀ (i : Nat) d, ds[i]? = some d → ∃ b, bs[i]? = some b ∧ f d = some b
  | [], bs, h => by cases h; exact ⟨rfl, fun i d e => by simp at e⟩
  | d :: ds, bs, h => by
    unfold testsD at h
    split at h
    · rename_i b bs' e1 e2
      cases h
      obtain ⟨l, g⟩ := testsD_get e2
      refine ⟨by simp [l], fun i d' e => ?_⟩
      cases i with
      | zero => cases e; exact ⟨b, rfl, e1⟩
      | succ i => exact g i d' e
    · cases h
def dQ (all : Bool) (f : D → Option Bool) (te : DT) : DT := fun Γ k => te Γ fun ρ Γ1 => ρ.frz fun d => ∃ ds bs, rowD d = some ds ∧ testsD f ds = some bs ∧ k (.fro (.bool (if all then bs.all id else bs.any id))) Γ1
theorem Sim.tabbed {K : PySem.W.Frag} {Γ : Ge} {F : Hp} {w : Addr → Nat} {σ : L2.St} {H H2 : Hp} (S : Sim K ow B Γ F w σ H) (hT : ow.T P) (t : GxR.Tabbed P H H2) : Sim K ow B Γ F w σ H2 := by
  obtain ⟨f0, b0, m0, ps, t0, _⟩ := S.tab P hT
  have ne : ∀ {v : V} {ρ : Rv} {A : List Addr}, RepR K F H v ρ A → ∀ a ∈ A, H2 a = H a := fun r a ha => t.2 a fun e => r.notab ha ps (by rw [e]; exact t0)
  refine ⟨fun b o h => ?_, S.ff, S.new, fun b o h1 h2 => ?_, S.len, fun i ρ h => ?_, fun i hi => ?_, fun a ha => ?_, fun a ha => ?_⟩
  · rw [t.2 b fun e => by rw [e, f0] at h; cases h]
    exact S.sub b o h
  · rw [t.2 b fun e => h2 (by rw [e]; exact m0)]
    exact S.keep b o h1 h2
  · obtain ⟨v, A, h1, r, h2⟩ := S.slot i ρ h
    exact ⟨v, A, h1, r.mono (Same.refl F) (ne r), h2⟩
  · obtain ⟨ρ, v, A, h1, h2, h3, h4, r, h5⟩ := S.own i hi
    exact ⟨ρ, v, A, h1, h2, h3, h4, r.mono (Same.refl F) (ne r), h5⟩
  · by_cases e : a = P
    · rw [e]
      obtain ⟨ps', q, _⟩ := t.1
      exact ⟨_, q⟩
    · rw [t.2 a e]; exact S.al a ha
  · obtain ⟨t1, t2, t3, t4⟩ := S.tab a ha
    refine ⟨t1, t2, t3, ?_⟩
    by_cases e : a = P
    · rw [e]; exact t.1
    · obtain ⟨ps', q, z⟩ := t4
      exact ⟨ps', by rw [t.2 a e]; exact q, z⟩
theorem range_all : ∀ bs : List Bool, (List.range bs.length).all (fun i => (bs[i]?).getD false) = bs.all id := by
  intro bs
  rw [Bool.eq_iff_iff, List.all_eq_true, List.all_eq_true]
  constructor
  · intro h b hb
    obtain ⟨j, hj, e⟩ := List.getElem_of_mem hb
    have q := h j (List.mem_range.mpr hj)
    rw [List.getElem?_eq_getElem hj, e] at q
    exact q
  · intro h j hj
    have hj' := List.mem_range.mp hj
    rw [List.getElem?_eq_getElem hj']
    exact h _ (List.getElem_mem hj')
theorem range_any : ∀ bs : List Bool, (List.range bs.length).any (fun i => (bs[i]?).getD false) = bs.any id := by
  intro bs
  rw [Bool.eq_iff_iff, List.any_eq_true, List.any_eq_true]
  constructor
  · intro ⟨j, hj, h⟩
    have hj' := List.mem_range.mp hj
    rw [List.getElem?_eq_getElem hj'] at h
    exact ⟨_, List.getElem_mem hj', h⟩
  · intro ⟨b, hb, h⟩
    obtain ⟨j, hj, e⟩ := List.getElem_of_mem hb
    refine ⟨j, List.mem_range.mpr hj, ?_⟩
    rw [List.getElem?_eq_getElem hj, e]
    exact h
/-- what a generator's reading is, once the row is there -/
theorem q_conv {K : PySem.W.Frag} {all : Bool} {f : D → Option Bool} {σ : L2.St} {H : Hp} {Q : VK} (hT : ow.T P) (h : tD K ow B (dQ all f te) σ H Q) :
    tD K ow B te σ H fun v H1 => ∃ t a vs ds bs F1, v = .ref a ∧ SqB K t H1 a vs ∧ RepFs K F1 vs ds ∧ testsD f ds = some bs ∧ GxR.TabG H1 P ∧ ∀ H2, GxR.Tabbed P H1 H2 → Q (.bl (if all then bs.all id else bs.any id)) H2 := by
  obtain ⟨Γ, F, w, S, k, q, hk⟩ := h
  refine ⟨Γ, F, w, S, _, q, fun ρ Γ1 F1 w1 H1 v1 A1 q1 e1 S1 r1 t1 => ?_⟩
  obtain ⟨d, F1', ⟨ds, bs, ed, eb, q1'⟩, e1', S1', r1'⟩ := S1.frz r1 t1 q1
  obtain ⟨t, a, vs, rfl, z1, z2⟩ := rowD_inv r1' ed
  refine ⟨t, a, vs, ds, bs, F1', rfl, z1.sq S1'.sub, z2, eb, (S1'.tab P hT).2.2.2, fun H2 tb => ?_⟩
  exact hk _ _ _ _ _ _ [] q1' (e1.trans e1') (S1'.tabbed hT tb) ⟨.bl _, rfl⟩ Tmp.nil
theorem tD_mono {K : PySem.W.Frag} {σ : L2.St} {H : Hp} {Q Q' : VK} (h : tD K ow B te σ H Q) (c : ∀ v H, Q v H → Q' v H) : tD K ow B te σ H Q' := by
  obtain ⟨Γ, F, w, S, k, q, hk⟩ := h
  exact ⟨Γ, F, w, S, k, q, fun ρ Γ' F' w' H' v A a b e f g => c _ _ (hk ρ Γ' F' w' H' v A a b e f g)⟩
theorem gen_test {f : D → Option Bool} {pins : List (Addr × Obj)} {σ : L2.St} {H : Hp} {s : Shared} {R : List Bool → Hp → Prop} {Q' : Value → Shared → Prop} (hr : Room k X.A) (TB : GxR.TabB X.base X.mg c P) (hcode : X.env.code = .ref c) (S : GxR.GenS X.env scope x) (hi : DE X ow B iter te) (hel : QEl X scope x P elt f) (hs : ∀ v, genFold iter X.env v = pure v) (I : Inv X pins σ H s)
    (h : tD X.K ow B te σ H fun v H1 => ∃ t a vs ds bs F1, v = .ref a ∧ SqB X.K t H1 a vs ∧ RepFs X.K F1 vs ds ∧ testsD f ds = some bs ∧ GxR.TabG H1 P ∧ R bs H1)
    (hQ : ∀ bs H1 g s5, R bs H1 → GenRdy X pins σ H1 P bs.length (fun i => .bl ((bs[i]?).getD false)) g s5 → Q' (.ref g) s5) :
    wpAny (model X.prog X.w) X.A (eval (.GeneratorExp elt [⟨.Name x px, iter, [], 0⟩] scope gpos) X.env) Q' X.xe s := by
  refine gen_eval hr TB hcode S hi hs I (tD_mono h fun v H1 ⟨t, a, vs, ds, bs, F1, e1, hq, rs, eb, hT, hR⟩ => ?_)
  obtain ⟨lb, gb⟩ := testsD_get eb
  refine ⟨t, a, vs, (fun i => .bl ((bs[i]?).getD false)), e1, hq, hT, fun s1 I1 C code bi i v u hv ru => ?_, fun g s5 G => ?_⟩
  · obtain ⟨d, hd, rd⟩ := rs.getV hv
    obtain ⟨b, hb, fb⟩ := gb i d hd
    show Qe X scope x P s1 C code bi u elt (.bl ((bs[i]?).getD false))
    rw [hb]
    exact hel F1 d b v u s1 C code bi rd ru fb
  · rw [rs.length, ← lb] at G
    exact hQ bs H1 g s5 hR G
theorem truth_bl {prog : Program} {w : World} {A : Around} (f : Nat → Bool) : TruthOf prog w A (fun i y => RelV (.bl (f i)) y) f := fun i v s Q E hv hQ => by
  cases (show v = Value.bool (f i) from hv)
  exact wpAny_truthy_bool hQ
theorem de_allQ {f : D → Option Bool} (hr : Room k X.A) (hT : ow.T P) (TB : GxR.TabB X.base X.mg c P) (hcode : X.env.code = .ref c) (hg : Gl X "all") (hm : X.mg "all" = none) (S : GxR.GenS X.env scope x) (hi : DE X ow B iter te) (hel : QEl X scope x P elt f)
    (hs : ∀ v, genFold iter X.env v = pure v := by intro _; rfl) (hb : bootBuiltins "all" = some (.builtin "all") := by rfl)
    (he : starEach [.GeneratorExp elt [⟨.Name x px, iter, [], 0⟩] scope gpos] X.env = (false, eval (.GeneratorExp elt [⟨.Name x px, iter, [], 0⟩] scope gpos) X.env) :: starEach [] X.env := by rfl) :
    DE X ow B (.Call (.Name "all" p) [.GeneratorExp elt [⟨.Name x px, iter, [], 0⟩] scope gpos] [] pos) (dQ true f te) := by
  refine ⟨fun pins s σ H Q I h => ?_⟩
  have h2 := q_conv hT h
  refine wpAny_Call_Name_kw (ld_blt I hg hm hb ?_)
  refine PyProof.Rows.callWith_builtin1 ?_ he (by rfl)
  rw [he]
  show wpAny _ _ (spliced ((false, eval (.GeneratorExp elt [⟨.Name x px, iter, [], 0⟩] scope gpos) X.env) :: backTo pos (starEach [] X.env))) _ _ s
  refine Calls.spliced_cons (gen_test (R := fun bs H1 => ∀ H2, GxR.Tabbed P H1 H2 → Q (.bl (bs.all id)) H2) hr TB hcode S hi hel hs I h2 fun bs H1 g s5 hR hG => ?_)
  obtain ⟨fp, wr, G, St, W, hst, hfp, hI⟩ := hG
  refine Calls.spliced_nil ?_
  refine call_all_walkS (W.self 0 _ _ _ hst ⟨g, fp, wr, G, _, _, St, _, rfl, W, hst, truth_bl _, fun s' hmv => ?_⟩)
  obtain ⟨H2, hTb, J⟩ := hI s' hmv
  refine ⟨.bl _, H2, J, rfl, ?_⟩
  rw [range_all bs]
  exact hR H2 hTb
theorem de_anyQ {f : D → Option Bool} (hr : Room k X.A) (hT : ow.T P) (TB : GxR.TabB X.base X.mg c P) (hcode : X.env.code = .ref c) (hg : Gl X "any") (hm : X.mg "any" = none) (S : GxR.GenS X.env scope x) (hi : DE X ow B iter te) (hel : QEl X scope x P elt f)
    (hs : ∀ v, genFold iter X.env v = pure v := by intro _; rfl)
    (he : starEach [.GeneratorExp elt [⟨.Name x px, iter, [], 0⟩] scope gpos] X.env = (false, eval (.GeneratorExp elt [⟨.Name x px, iter, [], 0⟩] scope gpos) X.env) :: starEach [] X.env := by rfl) :
    DE X ow B (.Call (.Name "any" p) [.GeneratorExp elt [⟨.Name x px, iter, [], 0⟩] scope gpos] [] pos) (dQ false f te) := by
  refine ⟨fun pins s σ H Q I h => ?_⟩
  have h2 := q_conv hT h
  refine wpAny_Call_Name_kw (ld_blt I hg hm boot_any ?_)
  refine PyProof.Rows.callWith_builtin1 ?_ he (by rfl)
  rw [he]
  show wpAny _ _ (spliced ((false, eval (.GeneratorExp elt [⟨.Name x px, iter, [], 0⟩] scope gpos) X.env) :: backTo pos (starEach [] X.env))) _ _ s
  refine Calls.spliced_cons (gen_test (R := fun bs H1 => ∀ H2, GxR.Tabbed P H1 H2 → Q (.bl (bs.any id)) H2) hr TB hcode S hi hel hs I h2 fun bs H1 g s5 hR hG => ?_)
  obtain ⟨fp, wr, G, St, W, hst, hfp, hI⟩ := hG
  refine Calls.spliced_nil ?_
  refine call_any_walkS (W.self 0 _ _ _ hst ⟨g, fp, wr, G, _, _, St, _, rfl, W, hst, truth_bl _, fun s' hmv => ?_⟩)
  obtain ⟨H2, hTb, J⟩ := hI s' hmv
  refine ⟨.bl _, H2, J, rfl, ?_⟩
  rw [range_any bs]
  exact hR H2 hTb
end
end Dn
set_option Elab.async false
set_option linter.all false
set_option maxRecDepth 100000
set_option maxHeartbeats 2000000
/-! # Dn: rows walked and unpacked; short words for the terms of a body -/
namespace Dn
open PySem PySem.Spec PyProof.Rows L2

/-! ### a row walked: a list or a tuple -/
def iRowB (K : PySem.W.Frag) (tl : TE) : TI := fun σ H R => tl σ H fun x H1 => ∃ a, x = .ref a ∧ ((∃ xs, SqL K H1 a xs) ∧ R (Itl K a) H1 ∨ (∃ xs, SqT K H1 a xs) ∧ R (Itt K a) H1)
theorem pi_rowB {X : Cx} {tg l : Expr} {tl : TE} (hl : PE X l tl) : PI X tg l (iRowB X.K tl) := by
  refine ⟨fun pins s σ H R I h => thn (hl.run pins s σ H _ I h) fun v s1 ⟨x, H1, I1, r1, q1⟩ => ?_⟩
  obtain ⟨a, rfl, q1⟩ := q1
  cases r1
  have one : ∀ b ∈ [s1.heap.objs.size], FpOk X pins H1 b := fun b hb => by
    rw [List.mem_singleton.mp hb]
    exact I1.fpOk (Nat.le_refl _) (I1.hok.fresh (Nat.le_refl _))
  rcases q1 with ⟨⟨xs, hq⟩, q⟩ | ⟨⟨xs, hq⟩, q⟩
  · obtain ⟨its, rv, p, hz⟩ := I1.list hq
    exact wpAny_pyIter_list p.isList ⟨_, [s1.heap.objs.size], _, _, H1, rfl, I1.kept (t' := s1.toks) fun b o z => Heap.get?_push_of_some _ z, turn_list a _, ⟨_, Heap.get?_push_size _ rfl, rfl, rfl⟩, one, q⟩
  · obtain ⟨its, rv, p, hz⟩ := I1.tuple hq
    exact wpAny_pyIter_tuple (show s1.heap.IsTuple a its.toArray from p) ⟨_, [s1.heap.objs.size], _, _, H1, rfl, I1.kept (t' := s1.toks) fun b o z => Heap.get?_push_of_some _ z, turn_tuple a _, ⟨_, Heap.get?_push_size _ rfl, rfl, rfl⟩, one, q⟩
section
variable {X : Cx} {ow : Ow} {B : Bs} {a b c e tg : Expr} {te ta : DT} {tb : DB} {pos p px : Pos} {x y : Str}
theorem di_row (h : DE X ow B e te) : IE X ow B tg e (dRow te) := (pi_rowB h).conv fun σ H R ⟨Γ, F, w, S, k, q, hk⟩ =>
  ⟨Γ, F, w, S, _, q, fun ρ Γ1 F1 w1 H1 v1 A1 q1 e1 S1 r1 t1 => by
    obtain ⟨d, F1', ⟨ds, ed, q1'⟩, e1', S1', r1'⟩ := S1.frz r1 t1 q1
    cases d with
    | list es =>
      cases ed
      obtain ⟨a, vs, rfl, z1, z2⟩ := r1'.lst_inv
      exact ⟨a, rfl, .inl ⟨⟨vs, SqL.of (S1'.sub _ _ z1)⟩, hk _ _ _ _ _ _ _ q1' (e1.trans e1') S1' (wk_list z1 z2)⟩⟩
    | tuple es =>
      cases ed
      obtain ⟨a, vs, rfl, z1, z2⟩ := r1'.tup_inv
      exact ⟨a, rfl, .inr ⟨⟨vs, sqT_mono S1'.sub z1⟩, hk _ _ _ _ _ _ _ q1' (e1.trans e1') S1' (wk_tup z1 z2)⟩⟩
    | _ => cases ed⟩
/-- unpacked: a list or a tuple -/
def dgRow (n : Nat) (gs : DGs) : DG := fun ρ Γ k => match ρ with
  | .fro d => ∃ ds, rowD d = some ds ∧ ds.length = n ∧ gs ds Γ k
  | _ => False
theorem _root_.L2.PG.or {e : Expr} {t t' : TG} (h : PG X e t) (h' : PG X e t') : PG X e fun v σ H Q => t v σ H Q ∨ t' v σ H Q := ⟨fun pins s σ H v u Q I r q => q.elim (h.run pins s σ H v u Q I r) (h'.run pins s σ H v u Q I r)⟩
theorem dg_row {es : List Expr} {j : Nat} {sl : List Nat} {gs : DGs} {n : Nat} (hc : X.calm = true) (h : GsE X ow B es sl gs) (hn : (assignEach es X.env).length = n := by rfl) (hst : (assignEach es X.env).findIdx? (·.1) = none := by rfl) : GE X ow B (.Tuple es j pos) sl (dgRow n gs) :=
  (PG.or (pg_tup hc h hn hst) (pg_unl hc h hn hst)).conv fun v σ H Q ⟨Γ, F, w, ρ, A, S, r, t, k, q, hk⟩ => by
  unfold dgRow at q
  split at q
  · rename_i d
    obtain ⟨ds, ed, hl, q⟩ := q
    cases d with
    | list es =>
      cases ed
      obtain ⟨a, vs, rfl, z1, z2⟩ := r.1.lst_inv
      exact .inr ⟨a, vs, rfl, SqL.of (S.sub _ _ z1), by rw [z2.length]; exact hl, Γ, F, w, _, S, z2, k, q, hk⟩
    | tuple es =>
      cases ed
      obtain ⟨a, vs, rfl, z1, z2⟩ := r.1.tup_inv
      exact .inl ⟨a, vs, rfl, sqT_mono S.sub z1, by rw [z2.length]; exact hl, Γ, F, w, _, S, z2, k, q, hk⟩
    | _ => cases ed
  · exact q.elim
/-! ### a module's value -/
def Glb (K : PySem.W.Frag) (mg : Str → Option Value) (x : Str) (d : D) : Prop := ∃ v u, mg x = some u ∧ RelV v u ∧ KDat K v d
theorem dgl {d : D} (h : Glb X.K X.mg x d) (hg : Gl X x := by rfl) (hdb : (x == ("__debug__" : Str)) = false := by decide) : DE X ow B (.Name x pos) (dC d) := by
  obtain ⟨v, u, h1, h2, h3⟩ := h
  exact de_glob hg h1 h2 h3 hdb
/-! ### the script -/
def dScrIx (i : Nat) (tb : DB) : DT := fun Γ k => match Γ[i]? with
  | some (some (.scr ns)) => tb Γ fun d Γ1 => match d with
    | .int j => ∃ n, atI ns j = some n ∧ k (.fro (.int n)) Γ1
    | _ => False
  | _ => False
theorem scr_ix {i : Nat} (h : PE X (.Name x px) (tVar i)) (hb : BE X ow B b tb) (hs : PlainIx b := by exact fun _ _ => rfl) : DE X ow B (.Subscript (.Name x px) b pos) (dScrIx i tb) := (pe_ix ix_list h hb hs).conv fun σ H Q ⟨Γ, F, w, S, k, q, hk⟩ => by
  unfold dScrIx at q
  split at q
  · rename_i ns e0
    obtain ⟨v, A, h1, ⟨a, rfl, z1, rfl⟩, _⟩ := S.slot i _ e0
    refine ⟨_, h1, Γ, F, w, S, _, q, fun d Γ1 F1 w1 H1 v1 q1 e1 S1 r1 => ?_⟩
    split at q1
    · rename_i j
      · obtain ⟨n, en, q1⟩ := q1
        refine ⟨a, _, j, .int n, rfl, r1.int_inv, S1.sub.seq (e1.seq z1), ?_, hk _ _ _ _ _ _ _ q1 e1 S1 ⟨.int n, rfl⟩ Tmp.nil⟩
        unfold atI at en ⊢
        rw [List.length_map]
        cases q2 : ixN ns.length j with
        | none => rw [q2] at en; cases en
        | some m =>
          rw [q2] at en
          have en' : ns[m]? = some n := en
          show (ns.map V.int)[m]? = some (.int n)
          rw [List.getElem?_map, en']
          rfl
    · exact q1.elim
  · exact q.elim
def dScrLen (i : Nat) : DT := fun Γ k => match Γ[i]? with
  | some (some (.scr ns)) => k (.fro (.int (ns.length : Nat))) Γ
  | _ => False
theorem scr_len {i : Nat} (h : PE X (.Name x px) (tVar i)) (hm : X.mg "len" = none) (hg : Gl X "len" := by rfl) (he : starEach (.Name x px :: []) X.env = (false, eval (.Name x px) X.env) :: starEach [] X.env := by rfl) (hpl : (backTo pos (starEach [] X.env)).any (·.1) = false := by rfl) :
    DE X ow B (.Call (.Name "len" p) [.Name x px] [] pos) (dScrLen i) := (pe_callB call_len hg hm boot_len (pa_cons h pa_nil he) (by decide) (by decide) he hpl).conv fun σ H Q ⟨Γ, F, w, S, k, q, hk⟩ => by
  unfold dScrLen at q
  split at q
  · rename_i ns e0
    obtain ⟨v, A, h1, ⟨a, rfl, z1, rfl⟩, _⟩ := S.slot i _ e0
    refine ⟨_, h1, _, ns.length, rfl, .inl ⟨_, S.sub.seq z1, by rw [List.length_map]⟩, hk _ _ _ _ _ _ _ q (Same.refl F) S ⟨.int _, rfl⟩ Tmp.nil⟩
  · exact q.elim
/-! ### short words -/
abbrev hu65 {A : Around} {k : Nat} (hr : Room k A) : A.units + 64 < cLine := hr.units
theorem c_eq {k : Nat} (hr : Room k X.A) (ha : DE X ow B a ta) (hb : BE X ow B b tb) (hm : behindInMarks .Eq b = false := by first | exact nomark _ | rfl) : DE X ow B (.Compare a [.Eq] [b] pos) (dOp dEq ta tb) := de_cmp (op_eqD (hu65 hr)) od_eq ha hb hm
theorem c_ne {k : Nat} (hr : Room k X.A) (ha : DE X ow B a ta) (hb : BE X ow B b tb) (hm : behindInMarks .NotEq b = false := by first | exact nomark _ | rfl) : DE X ow B (.Compare a [.NotEq] [b] pos) (dOp dNe ta tb) := de_cmp (op_neD (hu65 hr)) od_ne ha hb hm
theorem c_lt (ha : DE X ow B a ta) (hb : BE X ow B b tb) (hm : behindInMarks .Lt b = false := by first | exact nomark _ | rfl) : DE X ow B (.Compare a [.Lt] [b] pos) (dOp dLt ta tb) := de_cmp op_lt od_IB ha hb hm
theorem c_le (ha : DE X ow B a ta) (hb : BE X ow B b tb) (hm : behindInMarks .LtE b = false := by first | exact nomark _ | rfl) : DE X ow B (.Compare a [.LtE] [b] pos) (dOp dLe ta tb) := de_cmp op_le od_IB ha hb hm
theorem c_gt (ha : DE X ow B a ta) (hb : BE X ow B b tb) (hm : behindInMarks .Gt b = false := by first | exact nomark _ | rfl) : DE X ow B (.Compare a [.Gt] [b] pos) (dOp dGt ta tb) := de_cmp op_gt od_IB ha hb hm
theorem c_ge (ha : DE X ow B a ta) (hb : BE X ow B b tb) (hm : behindInMarks .GtE b = false := by first | exact nomark _ | rfl) : DE X ow B (.Compare a [.GtE] [b] pos) (dOp dGe ta tb) := de_cmp op_ge od_IB ha hb hm
theorem c_is (ha : DE X ow B a ta) (hb : BE X ow B b tb) (hm : behindInMarks .Is b = false := by first | exact nomark _ | rfl) : DE X ow B (.Compare a [.Is] [b] pos) (dOp (dIsN false) ta tb) := de_cmp op_isN od_isN ha hb hm
theorem c_isnt (ha : DE X ow B a ta) (hb : BE X ow B b tb) (hm : behindInMarks .IsNot b = false := by first | exact nomark _ | rfl) : DE X ow B (.Compare a [.IsNot] [b] pos) (dOp (dIsN true) ta tb) := de_cmp op_notN od_notN ha hb hm
/-- a value as a test: DE that gives a bool -/
theorem tst (h : DE X ow B e te) (he : ∀ whole, isTrue e X.env whole = (do let v ← whole; standAt e.pos; holding [v] (truthy v)) := by intro _; rfl) : TTe X ow B e (dTru te) := dt_tru h he
theorem t_eq {k : Nat} (hr : Room k X.A) (ha : DE X ow B a ta) (hb : BE X ow B b tb) (hm : behindInMarks .Eq b = false := by first | exact nomark _ | rfl) : TTe X ow B (.Compare a [.Eq] [b] pos) (dTst (dOp dEq ta tb)) := dt_cmp (op_eqD (hu65 hr)) od_eq ha hb hm
theorem t_ne {k : Nat} (hr : Room k X.A) (ha : DE X ow B a ta) (hb : BE X ow B b tb) (hm : behindInMarks .NotEq b = false := by first | exact nomark _ | rfl) : TTe X ow B (.Compare a [.NotEq] [b] pos) (dTst (dOp dNe ta tb)) := dt_cmp (op_neD (hu65 hr)) od_ne ha hb hm
theorem t_lt (ha : DE X ow B a ta) (hb : BE X ow B b tb) (hm : behindInMarks .Lt b = false := by first | exact nomark _ | rfl) : TTe X ow B (.Compare a [.Lt] [b] pos) (dTst (dOp dLt ta tb)) := dt_cmp op_lt od_IB ha hb hm
theorem t_le (ha : DE X ow B a ta) (hb : BE X ow B b tb) (hm : behindInMarks .LtE b = false := by first | exact nomark _ | rfl) : TTe X ow B (.Compare a [.LtE] [b] pos) (dTst (dOp dLe ta tb)) := dt_cmp op_le od_IB ha hb hm
theorem t_gt (ha : DE X ow B a ta) (hb : BE X ow B b tb) (hm : behindInMarks .Gt b = false := by first | exact nomark _ | rfl) : TTe X ow B (.Compare a [.Gt] [b] pos) (dTst (dOp dGt ta tb)) := dt_cmp op_gt od_IB ha hb hm
theorem t_ge (ha : DE X ow B a ta) (hb : BE X ow B b tb) (hm : behindInMarks .GtE b = false := by first | exact nomark _ | rfl) : TTe X ow B (.Compare a [.GtE] [b] pos) (dTst (dOp dGe ta tb)) := dt_cmp op_ge od_IB ha hb hm
theorem t_is (ha : DE X ow B a ta) (hb : BE X ow B b tb) (hm : behindInMarks .Is b = false := by first | exact nomark _ | rfl) : TTe X ow B (.Compare a [.Is] [b] pos) (dTst (dOp (dIsN false) ta tb)) := dt_cmp op_isN od_isN ha hb hm
theorem t_isnt (ha : DE X ow B a ta) (hb : BE X ow B b tb) (hm : behindInMarks .IsNot b = false := by first | exact nomark _ | rfl) : TTe X ow B (.Compare a [.IsNot] [b] pos) (dTst (dOp (dIsN true) ta tb)) := dt_cmp op_notN od_notN ha hb hm
/-- the built-ins -/
theorem bLen (hm : X.mg "len" = none) (h : BE X ow B e tb) (hg : Gl X "len" := by rfl) (he : starEach (e :: []) X.env = (false, eval e X.env) :: starEach [] X.env := by rfl) (hpl : (backTo pos (starEach [] X.env)).any (·.1) = false := by rfl) : DE X ow B (.Call (.Name "len" p) [e] [] pos) (dUn dLen tb) := de_callB call_len ud_len hg hm boot_len h (by decide) (by decide) he hpl
theorem bTuple (hm : X.mg "tuple" = none) (h : BE X ow B e tb) (hg : Gl X "tuple" := by rfl) (he : starEach (e :: []) X.env = (false, eval e X.env) :: starEach [] X.env := by rfl) (hpl : (backTo pos (starEach [] X.env)).any (·.1) = false := by rfl) : DE X ow B (.Call (.Name "tuple" p) [e] [] pos) (dUn dTuple tb) := de_callTy call_tuple_ofN ud_tuple hg hm boot_tuple h (by decide) (by decide) he hpl
theorem bList (hm : X.mg "list" = none) (h : BE X ow B e tb) (hg : Gl X "list" := by rfl) (he : starEach (e :: []) X.env = (false, eval e X.env) :: starEach [] X.env := by rfl) (hpl : (backTo pos (starEach [] X.env)).any (·.1) = false := by rfl) : DE X ow B (.Call (.Name "list" p) [e] [] pos) (dUn dList tb) := de_callTy call_list_of ud_list hg hm boot_list h (by decide) (by decide) he hpl
theorem bInt (hm : X.mg "int" = none) (h : BE X ow B e tb) (hg : Gl X "int" := by rfl) (he : starEach (e :: []) X.env = (false, eval e X.env) :: starEach [] X.env := by rfl) (hpl : (backTo pos (starEach [] X.env)).any (·.1) = false := by rfl) : DE X ow B (.Call (.Name "int" p) [e] [] pos) (dUn dInt tb) := de_callTy call_int1 ud_int hg hm boot_int h (by decide) (by decide) he hpl
theorem bAbs (hm : X.mg "abs" = none) (h : BE X ow B e tb) (hg : Gl X "abs" := by rfl) (he : starEach (e :: []) X.env = (false, eval e X.env) :: starEach [] X.env := by rfl) (hpl : (backTo pos (starEach [] X.env)).any (·.1) = false := by rfl) : DE X ow B (.Call (.Name "abs" p) [e] [] pos) (dUn dAbs tb) := de_callB call_abs ud_abs hg hm boot_abs h (by decide) (by decide) he hpl
theorem bAll (hc : X.calm = true) (hm : X.mg "all" = none) (h : BE X ow B e tb) (hg : Gl X "all" := by rfl) (he : starEach (e :: []) X.env = (false, eval e X.env) :: starEach [] X.env := by rfl) (hpl : (backTo pos (starEach [] X.env)).any (·.1) = false := by rfl) : DE X ow B (.Call (.Name "all" p) [e] [] pos) (dUn dAll tb) := de_callB (cr_all hc) ud_all hg hm (by decide +kernel) h (by decide) (by decide) he hpl
theorem bAny (hc : X.calm = true) (hm : X.mg "any" = none) (h : BE X ow B e tb) (hg : Gl X "any" := by rfl) (he : starEach (e :: []) X.env = (false, eval e X.env) :: starEach [] X.env := by rfl) (hpl : (backTo pos (starEach [] X.env)).any (·.1) = false := by rfl) : DE X ow B (.Call (.Name "any" p) [e] [] pos) (dUn dAny tb) := de_callB (cr_any hc) ud_any hg hm (by decide +kernel) h (by decide) (by decide) he hpl
theorem bMax (hc : X.calm = true) (hm : X.mg "max" = none) (h : DE X ow B a ta) (h2 : BE X ow B b tb) (hg : Gl X "max" := by rfl) (he : starEach (a :: [b]) X.env = (false, eval a X.env) :: starEach [b] X.env := by rfl) (he2 : starEach (b :: []) X.env = (false, eval b X.env) :: starEach [] X.env := by rfl) (hpl : (backTo pos (starEach [b] X.env)).any (·.1) = false := by rfl) :
    DE X ow B (.Call (.Name "max" p) [a, b] [] pos) (dOp (dI0 fun i j => if j > i then j else i) ta tb) := de_callB2 (call_max2 hc) od_max hg hm (by decide +kernel) h h2 (by decide) (by decide) he he2 hpl
theorem bMin (hc : X.calm = true) (hm : X.mg "min" = none) (h : DE X ow B a ta) (h2 : BE X ow B b tb) (hg : Gl X "min" := by rfl) (he : starEach (a :: [b]) X.env = (false, eval a X.env) :: starEach [b] X.env := by rfl) (he2 : starEach (b :: []) X.env = (false, eval b X.env) :: starEach [] X.env := by rfl) (hpl : (backTo pos (starEach [b] X.env)).any (·.1) = false := by rfl) :
    DE X ow B (.Call (.Name "min" p) [a, b] [] pos) (dOp (dI0 fun i j => if j < i then j else i) ta tb) := de_callB2 (call_min2 hc) od_min hg hm (by decide +kernel) h h2 (by decide) (by decide) he he2 hpl
theorem fr_conv {K : PySem.W.Frag} {t : DT} {σ : L2.St} {H : Hp} {Q : VK} (h : tD K ow B (dF t) σ H Q) : tD K ow B t σ H Q := by
  obtain ⟨Γ, F, w, S, k, q, hk⟩ := h
  exact ⟨Γ, F, w, S, _, q, fun ρ Γ' F' w' H' v A h1 e1 S1 r1 t1 => by
    obtain ⟨d, F2, q2, e2, S2, r2⟩ := S1.frz r1 t1 h1
    exact hk _ _ _ _ _ _ _ q2 (e1.trans e2) S2 ⟨r2, rfl⟩ Tmp.nil⟩
theorem ds_setLcF {elt tg iter : Expr} {ifs : List Expr} {scope : Scope} {own : List (Str × Nat)} {ti : DI} {g : DG} {tt : DTT} {sl : List Nat} {i : Nat} {y : Str} {py : Pos} {spos : Pos} (hc : X.calm = true) (hN : X.N.Nodup) (hy : X.N[i]? = some y) (hyl : X.env.scope.names.lookup y = some .local)
    (hsw : swapsWith (.ListComp elt [⟨tg, iter, ifs, 0⟩] scope pos) (some (.Name y py)) spos.line X.env = pure true) (hi : IE X ow B tg iter ti) (ok : BlkOk X.N X.env.scope scope own)
    (hg : ∀ (B : Bs) (s : Shared) (H : Hp) (C : Addr) (cl : List (Str × Addr)) (fp : List Addr), GE (X.blk s H scope (compEnvC scope cl C X.env) fp) ow B tg sl g) (ht : ∀ (B : Bs) (s : Shared) (H : Hp) (C : Addr) (cl : List (Str × Addr)) (fp : List Addr), TsE (X.blk s H scope (compEnvC scope cl C X.env) fp) ow B ifs tt)
    (he : ∀ (B : Bs) (s : Shared) (H : Hp) (C : Addr) (cl : List (Str × Addr)) (fp : List Addr), DE (X.blk s H scope (compEnvC scope cl C X.env) fp) ow B elt te)
    (ho : ow.l.contains i = false := by rfl) (hsl : ∀ j ∈ sl, j ∈ own.map (·.2) := by decide) (hv : ((own.map (·.2)).all fun v => !ow.l.contains v) = true := by rfl) (hs : ∀ x, foldedSetIterable iter X.env x = pure x := by intro _; rfl) :
    SE X ow B (.Assign [.Name y py] (.ListComp elt [⟨tg, iter, ifs, 0⟩] scope pos) spos) (dSet i (dF (dLc ti g tt te (own.map (·.2))))) :=
  (ps_setLc (g := xG X.K ow sl g) (tt := xT X.K ow tt) (te := xD X.K ow te) hc hN hy hyl hsw hi ok (fun s H C cl fp => PG.ex fun B => hg B s H C cl fp) (fun s H C cl fp => PTs.ex fun B => ht B s H C cl fp) (fun s H C cl fp => PE.ex fun B => he B s H C cl fp) hs).conv fun E σ H h => by
    have z := fr_conv (set_conv ho h)
    exact lc_conv (sl := sl) hsl (all_no hv) (fun _ h => h) (fun B _ _ _ _ h => ⟨B, h⟩) (fun B _ _ _ h => ⟨B, h⟩) (fun B _ _ _ h => ⟨B, h⟩) z
end
end Dn
namespace Dn
open PySem PySem.Spec PyProof.Rows L2
/-- a generator expression that takes no name from around -/
theorem genS_of {env : Env} {scope : Scope} {x : Str} (h : (scope.kind == .function && !scope.isCoroutine && scope.names.all (fun y => y.2 != .cell && y.2 != .free) && (scope.names.lookup (".0" : Str) == some NameKind.local) && (scope.names.lookup x == some NameKind.local)) = true) : GxR.GenS env scope x := by
  simp only [Bool.and_eq_true, List.all_eq_true, beq_iff_eq, bne_iff_ne, Bool.not_eq_true'] at h
  obtain ⟨⟨⟨⟨h1, h2⟩, h3⟩, h4⟩, h5⟩ := h
  exact ⟨h1, h2, fun y hy => (h3 y hy).1, h4, h5, fun y hy e => absurd e (h3 y hy).2⟩
def evenF : D → Option Bool
  | .int i => some (i % 2 == 0)
  | _ => none
theorem qe_even {X : Cx} {scope : Scope} {x : Str} {P : Addr} {p1 p2 p3 p4 p5 : Pos} {j j2} (hk : scope.kind = .function := by rfl) (hl : scope.names.lookup x = some .local := by rfl) (hd : (x == ("__debug__" : Str)) = false := by decide) :
    QEl X scope x P (.Compare (.BinOp (.Name x p1) .Mod (.Constant (.int 2) j p2) p3) [.Eq] [.Constant (.int 0) j2 p4] p5) evenF := by
  intro F d b v u s1 C code bi rd ru fb
  cases d with
  | int i =>
    cases fb
    have := rd.int_inv
    subst this
    exact q_eqI (q_mod (by decide) (q_item hk hl ru hd) q_int) q_int
  | _ => cases fb
end Dn
namespace Dn
open PySem PySem.Spec PyProof.Rows L2
theorem blkW {X : Cx} {scope : Scope} (N : List Str) (sc : Scope) (own : List (Str × Nat)) (h : blkC N sc scope own = true) (hN : X.N = N := by rfl) (hs : X.env.scope = sc := by rfl) : BlkOk X.N X.env.scope scope own := by
  subst hN hs
  exact blkOk_by h
end Dn
namespace Dn
theorem mS {α : Type} {o : Option α} {A : α → Prop} {x : α} : o = some x → A x → (match o with | some j => A j | none => False) := by
  intro h g
  subst h
  exact g
end Dn
namespace Dn
open PySem PySem.Spec PyProof.Rows L2
theorem de_powC {X : Cx} {ow : Ow} {B : Bs} {i j : Int} {k1 k2} {p1 p2 p3 : Pos} (v : Int) (hv : i ^ j.toNat = v) (hc : CPow i j) : DE X ow B (.BinOp (.Constant (.int i) k1 p1) .Pow (.Constant (.int j) k2 p2) p3) (dC (.int v)) :=
  (de_pow de_int (PE.toB de_int)).conv fun σ H Q ⟨Γ, F, w, S, k, q, hk⟩ => ⟨Γ, F, w, S, k, ⟨hc, by subst hv; exact q⟩, hk⟩
end Dn
namespace Dn
open PySem PySem.Spec PyProof.Rows L2
/-- a reading in other words -/
theorem ds_to {X : Cx} {ow : Ow} {B : Bs} {st : Stmt} {t : DS} (t' : DS) (h : SE X ow B st t) (c : ∀ D Γ, t' D Γ → t D Γ) : SE X ow B st t' :=
  h.conv fun E σ H ⟨Γ, F, w, S, D, q, ok⟩ => ⟨Γ, F, w, S, D, c D Γ q, ok⟩
end Dn
set_option Elab.async false
set_option linter.all false
set_option maxRecDepth 100000
set_option maxHeartbeats 2000000
/-! DnM: the head's facts for a law over plain data: defs, a fragment without tables, the tables of some code objects, further facts -/
namespace Dn
open PySem PySem.Spec PyProof.Rows L2
def noTab (o : Obj) : Bool := match o.cls, o.data with
  | .none, .fields _ => false
  | _, _ => true
def frN (K : PySem.W.Frag) : PySem.W.Frag := K.filter fun p => noTab p.2
theorem frG_mem {g : Addr → Option Obj} {a : Addr} {o : Obj} {as : List Addr} (h : (a, o) ∈ He.frG g as) : g a = some o := by
  unfold He.frG at h
  obtain ⟨b, _, e⟩ := List.mem_filterMap.mp h
  cases q : g b with
  | none => rw [q] at e; cases e
  | some x =>
    rw [q] at e
    cases e
    exact q
theorem frN_at {g : Addr → Option Obj} {a : Addr} {o : Obj} {as : List Addr} (h : (frN (He.frG g as)).lookup a = some o) : g a = some o ∧ noTab o = true := by
  have m := List.mem_filter.mp (PySem.W.mem_of_lookupK h)
  exact ⟨frG_mem m.1, m.2⟩
/-- a def's code object and its table -/
def tabC (K : PySem.W.Frag) (p : Str × Option Str) : Option (Addr × Addr) := match K.lookup (He.fAd K p) with
  | some ⟨_, _, .func fd, _⟩ => (match fd.code with
    | .ref c => (match K.lookup c with
      | some ⟨_, _, .fields vs, _⟩ => (match (vs[11]? : Option Value) with
        | some (.ref P) => some (c, P)
        | _ => none)
      | _ => none)
    | _ => none)
  | _ => none
abbrev AlM : Type := He.AlD × Bool × List (Bool × Option Obj)
def tabsM (tb : List (Str × Option Str)) (K K' : PySem.W.Frag) : List (Bool × Option Obj) := tb.map fun p => match tabC K p with
  | some (c, P) => (PySem.W.codeHdIn K c P, K'.lookup P)
  | none => (false, none)
def obsM (fa : List He.Fa) (fn : List He.DefD) (mo : PySem.W.Frag → Bool) (tb : List (Str × Option Str)) (K K' : PySem.W.Frag) : AlM := (He.obsD fa fn K, mo K, tabsM tb K K')
def valM (fn : List He.DefD) (tb : List (Str × Option Str)) : AlM := (He.valD fn, true, tb.map fun _ => (true, some (PySem.W.tabObj #[])))
def obsMG (n : Nat) (fa : List He.Fa) (fn : List He.DefD) (mo : PySem.W.Frag → Bool) (tb : List (Str × Option Str)) (g : Addr → Option Obj) : AlM := obsM fa fn mo tb (frN (He.frG g (He.asD g n))) (He.frG g (He.asD g n))
/-- what stands at the head's heap -/
def SaysM (fa : List He.Fa) (fn : List He.DefD) (mo : PySem.W.Frag → Bool) (tb : List (Str × Option Str)) (h : Heap) : Prop :=
  ∃ K K' : PySem.W.Frag, K.In h ∧ K'.In h ∧ (∀ a o, K.lookup a = some o → noTab o = true) ∧ obsM fa fn mo tb K K' = valM fn tb
def hookM (n : Nat) (fa : List He.Fa) (fn : List He.DefD) (mo : PySem.W.Frag → Bool) (tb : List (Str × Option Str)) : PySem.W.Hook where
  α := AlM
  obs := fun s => obsMG n fa fn mo tb s.heap.get?
  val := fun _ => valM fn tb
  says := fun _ h => SaysM fa fn mo tb h
  of := fun _ _ e => ⟨_, _, fun _ _ h => (frN_at h).1, He.frG_in, fun _ _ h => (frN_at h).2, e⟩
  keeps := fun _ _ _ ⟨K, K', hK, hK', nt, c⟩ k => ⟨K, K', PySem.W.Frag.In.keeps hK k, PySem.W.Frag.In.keeps hK' k, nt, c⟩
theorem obsMG_eq {n : Nat} {fa : List He.Fa} {fn : List He.DefD} {mo : PySem.W.Frag → Bool} {tb : List (Str × Option Str)} {g : Addr → Option Obj} {s : Shared} (h : ∀ a, g a = s.heap.get? a) : obsMG n fa fn mo tb g = (hookM n fa fn mo tb).obs s := by
  have e : g = s.heap.get? := funext h
  rw [e] <;> rfl
section
variable {fa : List He.Fa} {fn : List He.DefD} {mo : PySem.W.Frag → Bool} {tb : List (Str × Option Str)} {h : Heap}
/-- the facts, opened -/
theorem SaysM.open_ (s : SaysM fa fn mo tb h) : ∃ K : PySem.W.Frag, K.In h ∧ He.SaysD fa fn K ∧ mo K = true ∧
    ∀ p ∈ tb, ∃ c P, tabC K p = some (c, P) ∧ h.get? P = some (PySem.W.tabObj #[]) ∧ K.lookup P = none ∧ PySem.W.CodeHd h c P := by
  obtain ⟨K, K', hK, hK', nt, c⟩ := s
  refine ⟨K, hK, congrArg (fun z : AlM => z.1) c, congrArg (fun z : AlM => z.2.1) c, fun p hp => ?_⟩
  have c3 : tabsM tb K K' = tb.map fun _ => (true, some (PySem.W.tabObj #[])) := congrArg (fun z : AlM => z.2.2) c
  have c4 := List.map_inj_left.mp c3 p hp
  cases q : tabC K p with
  | none => rw [q] at c4; cases c4
  | some cp =>
    obtain ⟨c, P⟩ := cp
    rw [q] at c4
    have e1 : PySem.W.codeHdIn K c P = true := congrArg Prod.fst c4
    have e2 : K'.lookup P = some (PySem.W.tabObj #[]) := congrArg Prod.snd c4
    have e3 := hK' _ _ e2
    refine ⟨c, P, rfl, e3, ?_, PySem.W.codeHd_of_K hK e1⟩
    cases q2 : K.lookup P with
    | none => rfl
    | some o =>
      have e4 := hK _ _ q2
      rw [e3] at e4
      cases e4
      cases nt _ _ q2
end
/-- the code of a def whose table is known -/
theorem tabC_code {K : PySem.W.Frag} {q : Str × Option Str} {x qual : Str} {pr : Arguments} {bd : List Stmt} {sc : Scope} {fd : FuncData} {c P : Addr} {dv : List V} {kw : List (Str × V)} (F : FunD K x qual pr bd sc dv kw (He.fAd K q) fd) (h : tabC K q = some (c, P)) : fd.code = .ref c := by
  obtain ⟨⟨oc, od, n8, n9, n10, n11, n12, n13, n14, osl, rfl, lk, _⟩, _⟩ := F
  unfold tabC at h
  rw [lk] at h
  cases n13 with
  | ref c' =>
    have h3 : (match K.lookup c' with
      | some ⟨_, _, .fields vs, _⟩ => (match (vs[11]? : Option Value) with
        | some (.ref P) => some (c', P)
        | _ => none)
      | _ => none) = some (c, P) := h
    split at h3
    · split at h3
      · cases h3
        rfl
      · cases h3
    · cases h3
  | _ => cases h
theorem fun_of {K : PySem.W.Frag} {x qual : Str} {st : Stmt} {f : Addr} {fd : FuncData} (F : FunD K x qual (defArgs st) (defBody st) (defScope st) [] [] f fd) : Fun K x qual st f fd := by
  obtain ⟨⟨oc, od, n8, n9, n10, n11, n12, n13, n14, osl, e, lk, cd, dv, _⟩, kp⟩ := F
  rcases dv with ⟨_, rfl⟩ | ⟨z, _⟩
  · exact ⟨⟨oc, od, n9, n10, n11, n12, n13, n14, osl, e, lk, cd⟩, kp⟩
  · exact absurd rfl z
/-- a def of the module's top, by its name -/
abbrev dd (x : Str) (st : Stmt) : He.DefD := ⟨(x, none), x, x, defArgs st, defBody st, defScope st, [], []⟩
theorem cal_of {P : Program} {w : World} {K : PySem.W.Frag} {mg : Str → Option Value} {base h : Heap} {T : Addr → Prop} {k : Nat} {x : Str} {ps : List Str} {p : DSp} {st : Stmt} {fa : List He.Fa} {fn : List He.DefD} (c : He.SaysD fa fn K) (X : K.In h) (G : h.Ns mainGlobals mg) (i j : Nat)
    (hi : fn[i]? = some (dd x st)) (hj : fa[j]? = some (.glo x)) (hb : ∀ (kV doc pm : Value) (an : Option Addr) (cdv ct : Value) (us : List Value), us.length = ps.length → bindArgs (PySem.W.fnOf x x (defArgs st) (defBody st) (defScope st) .none kV doc pm an cdv ct) ⟨us, []⟩ = pure (ps.zip us))
    (ok : ∀ f fd, f = He.ga K x → Fun K x x st f fd → (∀ c P, tabC K (x, none) = some (c, P) → fd.code = .ref c) → FnOk P w K mg base CX0 k f fd ps (spD K T p)) : Cal P w K mg base T k x ps p := by
  obtain ⟨fd, F⟩ := c.def_ i hi
  have e := He.glo_ok X G (c.fact j hj)
  exact ⟨He.ga K x, fd, ok _ _ rfl (fun_of F) fun c P h => tabC_code F h, e, F.kp, F.bindsN hb⟩
/-- a promise that is never asked -/
theorem bot_ok {P : Program} {w : World} {K : PySem.W.Frag} {mg : Str → Option Value} {base : Heap} {T : Addr → Prop} {k : Nat} {f : Addr} {fd : FuncData} {ps : List Str} {p : DSp} (h : ∀ ρs k, ¬ p ρs k) : FnOk P w K mg base CX0 k f fd ps (spD K T p) :=
  ⟨fun vs H Q E ⟨F, ρs, As, _, _, _, _, _, k, hp, _⟩ => (h ρs k hp).elim, fun A outer s H args us vs Q E _ _ _ _ ⟨F, ρs, As, _, _, _, _, _, k, hp, _⟩ => (h ρs k hp).elim⟩
/-- the law's promise at the head: the script stands still, the tables may grow -/
theorem law_sp {K : PySem.W.Frag} {T : Addr → Prop} {H : Hp} {a : Addr} {ns : List Int} {p : DSp} (hT : ∀ a, T a → H a = some (.tbl #[])) (hS : SqL K H a (ns.map V.int)) (hp : p [.scr ns] fun ρ _ => ρ = .fro (.bool true)) : spD K T p [.ref a] H (fun v _ => v = .bl true) fun _ _ _ => False := by
  classical
  refine ⟨fun b => if T b then none else H b, [.scr ns], [[]], fun b o e => ?_, fun b hb => ⟨if_pos hb, #[], hT b hb, ?_⟩, .cons ⟨a, rfl, ?_, rfl⟩ .nil, ?_, fun b hb => ?_, _, hp, fun ρ ρs' v F' H' A e c => ?_⟩
  · by_cases hb : T b
    · have e' := (if_pos hb).symm.trans e
      cases e'
    · exact (if_neg hb).symm.trans e
  · trivial
  · rcases hS with (r | ⟨o, r⟩) | r
    · refine .inl (.inl ((if_neg fun z => ?_).trans r))
      rw [hT a z] at r
      cases r
    · refine .inl (.inr ⟨o, (if_neg fun z => ?_).trans r⟩)
      rw [hT a z] at r
      cases r
    · exact .inr r
  · exact List.nodup_nil
  · cases hb
  · subst e
    exact (c.res.1).bl_inv
/-- a script's numbers -/
theorem sok_gen {ns : List Int} (B : Nat) (h : ∀ z ∈ ns, Builtin.Int.intBits z ≤ B) : ∃ b : Nat, b ≤ B ∧ ∀ n ∈ ns, n.natAbs < 2 ^ b := ⟨B, Nat.le_refl _, fun n hn => PySem.intBits_le_iff.mp (h n hn)⟩
theorem sok_of {ns : List Int} (h : ∀ z ∈ ns, Builtin.Int.intBits z ≤ 1048576) : ∃ b : Nat, b ≤ 1048576 ∧ ∀ n ∈ ns, n.natAbs < 2 ^ b := sok_gen _ h
theorem tab_of {base : Heap} {mg : Str → Option Value} {c P : Addr} (h : LamX.TabB base mg c P) : GxR.TabB base mg c P := ⟨h.code, h.bm, h.gP⟩
end Dn
set_option linter.all false
/-! numbers over the eighth root of 1, and powers of the root of 2: plain Lean -/
namespace Zw
@[ext] structure Z4 where
  a : Int
  b : Int
  c : Int
  d : Int
deriving DecidableEq
def rt (x : Z4) : Z4 := ⟨x.b - x.d, x.a + x.c, x.b + x.d, x.c - x.a⟩
def add (x y : Z4) : Z4 := ⟨x.a + y.a, x.b + y.b, x.c + y.c, x.d + y.d⟩
def neg (x : Z4) : Z4 := ⟨-x.a, -x.b, -x.c, -x.d⟩
def zero : Z4 := ⟨0, 0, 0, 0⟩
def one : Z4 := ⟨1, 0, 0, 0⟩
def smul (n : Int) (x : Z4) : Z4 := ⟨n * x.a, n * x.b, n * x.c, n * x.d⟩
def mul (x y : Z4) : Z4 := ⟨x.a * y.a - x.b * y.d - x.c * y.c - x.d * y.b, x.a * y.b + x.b * y.a - x.c * y.d - x.d * y.c, x.a * y.c + x.b * y.b + x.c * y.a - x.d * y.d, x.a * y.d + x.b * y.c + x.c * y.b + x.d * y.a⟩
def conj (x : Z4) : Z4 := ⟨x.a, -x.d, -x.c, -x.b⟩
def rtn : Nat → Z4 → Z4
  | 0, x => x
  | n + 1, x => rt (rtn n x)
theorem rt_rt (x : Z4) : rt (rt x) = smul 2 x := by
  ext <;> simp only [rt, smul] <;> omega
theorem rt_inj {x y : Z4} (h : rt x = rt y) : x = y := by
  have e : rt (rt x) = rt (rt y) := by rw [h]
  rw [rt_rt, rt_rt] at e
  simp only [smul, Z4.mk.injEq] at e
  ext <;> omega
theorem rtn_inj {n : Nat} {x y : Z4} (h : rtn n x = rtn n y) : x = y := by
  induction n with
  | zero => exact h
  | succ n ih => exact ih (rt_inj h)
theorem rtn_rt (n : Nat) (x : Z4) : rtn n (rt x) = rt (rtn n x) := by
  induction n with
  | zero => rfl
  | succ n ih => simp only [rtn]; rw [ih]
theorem rtn_add (m n : Nat) (x : Z4) : rtn (m + n) x = rtn m (rtn n x) := by
  induction m with
  | zero => simp [rtn]
  | succ m ih => rw [Nat.succ_add]; simp only [rtn]; rw [ih]
theorem rt_zero : rt zero = zero := rfl
theorem rtn_zero (n : Nat) : rtn n zero = zero := by
  induction n with
  | zero => rfl
  | succ n ih => simp only [rtn]; rw [ih]; rfl
theorem rt_add (x y : Z4) : rt (add x y) = add (rt x) (rt y) := by
  ext <;> simp only [rt, add] <;> omega
theorem rt_neg (x : Z4) : rt (neg x) = neg (rt x) := by
  ext <;> simp only [rt, neg] <;> omega
theorem rt_conj (x : Z4) : rt (conj x) = conj (rt x) := by
  ext <;> simp only [rt, conj] <;> omega
theorem rt_mul (x y : Z4) : rt (mul x y) = mul (rt x) y := by
  ext <;> simp only [rt, mul] <;> grind
theorem mul_comm (x y : Z4) : mul x y = mul y x := by
  ext <;> simp only [mul] <;> grind
theorem mul_assoc (x y z : Z4) : mul (mul x y) z = mul x (mul y z) := by
  ext <;> simp only [mul] <;> grind
theorem mul_add (x y z : Z4) : mul (add x y) z = add (mul x z) (mul y z) := by
  ext <;> simp only [mul, add] <;> grind
theorem rtn_add' (n : Nat) (x y : Z4) : rtn n (add x y) = add (rtn n x) (rtn n y) := by
  induction n with
  | zero => rfl
  | succ n ih => simp only [rtn]; rw [ih, rt_add]
theorem rtn_neg (n : Nat) (x : Z4) : rtn n (neg x) = neg (rtn n x) := by
  induction n with
  | zero => rfl
  | succ n ih => simp only [rtn]; rw [ih, rt_neg]
theorem rtn_conj (n : Nat) (x : Z4) : rtn n (conj x) = conj (rtn n x) := by
  induction n with
  | zero => rfl
  | succ n ih => simp only [rtn]; rw [ih, rt_conj]
theorem rtn_mul (n : Nat) (x y : Z4) : rtn n (mul x y) = mul (rtn n x) y := by
  induction n with
  | zero => rfl
  | succ n ih => simp only [rtn]; rw [ih, rt_mul]
theorem rtn_mul2 (m n : Nat) (x y : Z4) : rtn (m + n) (mul x y) = mul (rtn m x) (rtn n y) := by
  rw [rtn_add, mul_comm x y, rtn_mul, mul_comm, rtn_mul]
/-- the number x / root^p, times root^N -/
def ev (N : Int) (x : Z4) (p : Int) : Z4 := rtn (N - p).toNat x
/-- x / root^p = y / root^q -/
def Eqv (x : Z4) (p : Int) (y : Z4) (q : Int) : Prop := ∀ N, p ≤ N → q ≤ N → ev N x p = ev N y q
theorem ev_up {M N p : Int} {x : Z4} (h : p ≤ N) (h2 : N ≤ M) : ev M x p = rtn (M - N).toNat (ev N x p) := by
  unfold ev
  rw [← rtn_add]
  congr 1
  omega
theorem eqv_of {x y : Z4} {p q N : Int} (hp : p ≤ N) (hq : q ≤ N) (h : ev N x p = ev N y q) : Eqv x p y q := by
  intro M h1 h2
  rcases Int.le_total N M with z | z
  · rw [ev_up hp z, ev_up hq z, h]
  · rw [ev_up h1 z, ev_up h2 z] at h
    exact rtn_inj h
theorem Eqv.refl (x : Z4) (p : Int) : Eqv x p x p := fun _ _ _ => rfl
theorem Eqv.symm {x y : Z4} {p q : Int} (h : Eqv x p y q) : Eqv y q x p := fun N a b => (h N b a).symm
theorem Eqv.trans {x y z : Z4} {p q r : Int} (h : Eqv x p y q) (g : Eqv y q z r) : Eqv x p z r := by
  have hp : p ≤ max (max p q) r := by omega
  have hr : r ≤ max (max p q) r := by omega
  have hq : q ≤ max (max p q) r := by omega
  exact eqv_of hp hr ((h _ hp hq).trans (g _ hq hr))
theorem eqv_rt (x : Z4) (p : Int) : Eqv x p (rt x) (p + 1) := by
  refine eqv_of (N := p + 1) (by omega) (by omega) ?_
  unfold ev
  rw [show (p + 1 - p).toNat = 1 by omega, show (p + 1 - (p + 1)).toNat = 0 by omega]
  rfl
theorem eqv_rtn (n : Nat) (x : Z4) (p : Int) : Eqv x p (rtn n x) (p + n) := by
  induction n with
  | zero => simp [rtn]; exact Eqv.refl _ _
  | succ n ih =>
    have := ih.trans (eqv_rt _ _)
    rw [Int.add_assoc] at this
    exact this
/-- even all over: root divides it -/
def Ev (x : Z4) : Prop := (rt x).a % 2 = 0 ∧ (rt x).b % 2 = 0 ∧ (rt x).c % 2 = 0 ∧ (rt x).d % 2 = 0
def half (x : Z4) : Z4 := ⟨x.a / 2, x.b / 2, x.c / 2, x.d / 2⟩
theorem half_rt {x : Z4} (h : Ev x) : rt (half (rt x)) = x := by
  obtain ⟨h1, h2, h3, h4⟩ := h
  simp only [rt] at h1 h2 h3 h4
  ext <;> simp only [rt, half] <;> omega
theorem eqv_half {x : Z4} {p : Int} (h : Ev x) : Eqv x p (half (rt x)) (p - 1) := by
  have := eqv_rt (half (rt x)) (p - 1)
  rw [half_rt h, show p - 1 + 1 = p by omega] at this
  exact this.symm
/-- the one form -/
def Canon (x : Z4) (p : Int) : Prop := 0 ≤ p ∧ (p = 0 ∨ ¬ Ev x)
theorem ev_of_rt {x : Z4} : Ev (rt x) := by
  simp only [Ev, rt]
  omega
theorem canon_uniq {x y : Z4} {p q : Int} (hx : Canon x p) (hy : Canon y q) (h : Eqv x p y q) : x = y ∧ p = q := by
  have key : ∀ {x y : Z4} {p q : Int}, Canon y q → 0 ≤ p → Eqv x p y q → p < q → False := by
    intro x y p q hy hp h hlt
    have e := h q (by omega) (by omega)
    unfold ev at e
    rw [show (q - q).toNat = 0 by omega] at e
    obtain ⟨n, hn⟩ : ∃ n, (q - p).toNat = n + 1 := ⟨(q - p).toNat - 1, by omega⟩
    rw [hn] at e
    have ey : rt (rtn n x) = y := e
    rcases hy.2 with z | z
    · omega
    · exact z (by rw [← ey]; exact ev_of_rt)
  rcases Int.lt_trichotomy p q with z | z | z
  · exact (key hy hx.1 h z).elim
  · subst z
    have e := h p (by omega) (by omega)
    exact ⟨rtn_inj e, rfl⟩
  · exact (key hx hy.1 h.symm z).elim
theorem eqv_mul {x y x' y' : Z4} {p q p' q' : Int} (h : Eqv x p x' p') (g : Eqv y q y' q') : Eqv (mul x y) (p + q) (mul x' y') (p' + q') := by
  have e1 := h (max p p') (by omega) (by omega)
  have e2 := g (max q q') (by omega) (by omega)
  refine eqv_of (N := max p p' + max q q') (by omega) (by omega) ?_
  unfold ev at *
  rw [show (max p p' + max q q' - (p + q)).toNat = (max p p' - p).toNat + (max q q' - q).toNat by omega, rtn_mul2, e1, e2, ← rtn_mul2]
  congr 1
  omega
/-- the sum, at the greater power -/
def plus (x : Z4) (p : Int) (y : Z4) (q : Int) : Z4 := add (rtn (max p q - p).toNat x) (rtn (max p q - q).toNat y)
theorem ev_plus {N p q : Int} {x y : Z4} (h1 : p ≤ N) (h2 : q ≤ N) : ev N (plus x p y q) (max p q) = add (ev N x p) (ev N y q) := by
  unfold ev plus
  rw [rtn_add', ← rtn_add, ← rtn_add]
  congr 2 <;> omega
theorem eqv_plus {x y x' y' : Z4} {p q p' q' : Int} (h : Eqv x p x' p') (g : Eqv y q y' q') : Eqv (plus x p y q) (max p q) (plus x' p' y' q') (max p' q') := by
  refine eqv_of (N := max (max p q) (max p' q')) (by omega) (by omega) ?_
  rw [ev_plus (by omega) (by omega), ev_plus (by omega) (by omega), h _ (by omega) (by omega), g _ (by omega) (by omega)]
theorem eqv_neg {x x' : Z4} {p p' : Int} (h : Eqv x p x' p') : Eqv (neg x) p (neg x') p' := fun N a b => by
  unfold ev
  rw [rtn_neg, rtn_neg]
  exact congrArg neg (h N a b)
theorem eqv_conj {x x' : Z4} {p p' : Int} (h : Eqv x p x' p') : Eqv (conj x) p (conj x') p' := fun N a b => by
  unfold ev
  rw [rtn_conj, rtn_conj]
  exact congrArg conj (h N a b)
theorem eqv_pow {x y : Z4} {p q : Int} (h : Eqv x p y q) (n : Int) : Eqv x (p + n) y (q + n) := by
  refine eqv_of (N := max p q + n) (by omega) (by omega) ?_
  have := h (max p q) (by omega) (by omega)
  unfold ev at *
  rw [show (max p q + n - (p + n)).toNat = (max p q - p).toNat by omega, show (max p q + n - (q + n)).toNat = (max p q - q).toNat by omega]
  exact this
theorem ev_neg {x : Z4} : Ev (neg x) ↔ Ev x := by
  simp only [Ev, rt, neg]; omega
theorem ev_conj {x : Z4} : Ev (conj x) ↔ Ev x := by
  simp only [Ev, rt, conj]; omega
theorem canon_neg {x : Z4} {p : Int} (h : Canon x p) : Canon (neg x) p := ⟨h.1, h.2.imp id fun z e => z (ev_neg.mp e)⟩
theorem canon_conj {x : Z4} {p : Int} (h : Canon x p) : Canon (conj x) p := ⟨h.1, h.2.imp id fun z e => z (ev_conj.mp e)⟩
/-- half of a test is enough -/
theorem ev_iff {x : Z4} : Ev x ↔ (x.a + x.c) % 2 = 0 ∧ (x.b + x.d) % 2 = 0 := by
  simp only [Ev, rt]; omega
/-! ### sizes -/
def Bd (n : Nat) (x : Z4) : Prop := x.a.natAbs < 2 ^ n ∧ x.b.natAbs < 2 ^ n ∧ x.c.natAbs < 2 ^ n ∧ x.d.natAbs < 2 ^ n
theorem two_le {m n : Nat} (h : m ≤ n) : 2 ^ m ≤ 2 ^ n := Nat.pow_le_pow_right (by decide) h
theorem Bd.mono {m n : Nat} {x : Z4} (h : Bd m x) (l : m ≤ n) : Bd n x := by
  have := two_le l
  obtain ⟨h1, h2, h3, h4⟩ := h
  exact ⟨by omega, by omega, by omega, by omega⟩
theorem bd_rt {n : Nat} {x : Z4} (h : Bd n x) : Bd (n + 1) (rt x) := by
  obtain ⟨h1, h2, h3, h4⟩ := h
  have e : 2 ^ (n + 1) = 2 ^ n + 2 ^ n := by rw [Nat.pow_succ]; omega
  refine ⟨?_, ?_, ?_, ?_⟩ <;> rw [e] <;> simp only [rt] <;> omega
theorem bd_rtn {n : Nat} {x : Z4} (h : Bd n x) : ∀ m : Nat, Bd (n + m) (rtn m x)
  | 0 => h
  | m + 1 => bd_rt (bd_rtn h m)
theorem bd_half {n : Nat} {x : Z4} (h : Bd n x) : Bd n (half (rt x)) := by
  obtain ⟨h1, h2, h3, h4⟩ := h
  refine ⟨?_, ?_, ?_, ?_⟩ <;> simp only [rt, half] <;> omega
theorem bd_add {n : Nat} {x y : Z4} (h : Bd n x) (g : Bd n y) : Bd (n + 1) (add x y) := by
  obtain ⟨h1, h2, h3, h4⟩ := h
  obtain ⟨g1, g2, g3, g4⟩ := g
  have e : 2 ^ (n + 1) = 2 ^ n + 2 ^ n := by rw [Nat.pow_succ]; omega
  refine ⟨?_, ?_, ?_, ?_⟩ <;> rw [e] <;> simp only [add] <;> omega
theorem bd_neg {n : Nat} {x : Z4} (h : Bd n x) : Bd n (neg x) := by
  obtain ⟨h1, h2, h3, h4⟩ := h
  refine ⟨?_, ?_, ?_, ?_⟩ <;> simp only [neg] <;> omega
theorem bd_conj {n : Nat} {x : Z4} (h : Bd n x) : Bd n (conj x) := by
  obtain ⟨h1, h2, h3, h4⟩ := h
  refine ⟨?_, ?_, ?_, ?_⟩ <;> simp only [conj] <;> omega
theorem nm {i j : Int} {m n : Nat} (h : i.natAbs < 2 ^ m) (g : j.natAbs < 2 ^ n) : (i * j).natAbs < 2 ^ (m + n) := by
  rw [Int.natAbs_mul, Nat.pow_add]
  exact Nat.mul_lt_mul'' h g
theorem n4 {X : Nat} {a b c d : Int} (h1 : a.natAbs < X) (h2 : b.natAbs < X) (h3 : c.natAbs < X) (h4 : d.natAbs < X) :
    (a - b - c - d).natAbs < X + X + X + X ∧ (a + b - c - d).natAbs < X + X + X + X ∧ (a + b + c - d).natAbs < X + X + X + X ∧ (a + b + c + d).natAbs < X + X + X + X := by
  omega
theorem bd_mul {m n : Nat} {x y : Z4} (h : Bd m x) (g : Bd n y) : Bd (m + n + 2) (mul x y) := by
  obtain ⟨h1, h2, h3, h4⟩ := h
  obtain ⟨g1, g2, g3, g4⟩ := g
  have e : 2 ^ (m + n + 2) = 2 ^ (m + n) + 2 ^ (m + n) + 2 ^ (m + n) + 2 ^ (m + n) := by rw [Nat.pow_add _ _ 2]; omega
  refine ⟨?_, ?_, ?_, ?_⟩ <;> rw [e] <;> simp only [mul]
  · exact (n4 (nm h1 g1) (nm h2 g4) (nm h3 g3) (nm h4 g2)).1
  · exact (n4 (nm h1 g2) (nm h2 g1) (nm h3 g4) (nm h4 g3)).2.1
  · exact (n4 (nm h1 g3) (nm h2 g2) (nm h3 g1) (nm h4 g4)).2.2.1
  · exact (n4 (nm h1 g4) (nm h2 g3) (nm h3 g2) (nm h4 g1)).2.2.2
theorem eqv_zero (p q : Int) : Eqv zero p zero q := fun N _ _ => by
  unfold ev
  rw [rtn_zero, rtn_zero]
theorem bd_zero (n : Nat) : Bd n zero := by
  have : 0 < 2 ^ n := Nat.pow_pos (by decide)
  exact ⟨this, this, this, this⟩
/-- what exact gives -/
structure IsEx (x : Z4) (p : Int) (y : Z4) (q : Int) : Prop where
  can : Canon y q
  eqv : Eqv x p y q
  bd : ∀ n, Bd n x → Bd (n + (-p).toNat) y
  top : q ≤ max p 0
end Zw
namespace Zw
theorem rtn_two (n : Nat) (x : Z4) : rtn (2 * n) x = smul (2 ^ n) x := by
  induction n with
  | zero => ext <;> simp [rtn, smul]
  | succ n ih =>
    rw [show 2 * (n + 1) = 2 + 2 * n by omega, rtn_add, ih]
    show rt (rt (smul (2 ^ n) x)) = _
    rw [rt_rt]
    ext <;> simp only [smul, Int.pow_succ] <;> grind
/-- the law's sum, figure by figure -/
def pl (x : Z4) (e : Int) (y : Z4) (f m : Int) : Z4 := ⟨x.a * (1 * 2 ^ (m - e).toNat) + y.a * (1 * 2 ^ (m - f).toNat), x.b * (1 * 2 ^ (m - e).toNat) + y.b * (1 * 2 ^ (m - f).toNat), x.c * (1 * 2 ^ (m - e).toNat) + y.c * (1 * 2 ^ (m - f).toNat), x.d * (1 * 2 ^ (m - e).toNat) + y.d * (1 * 2 ^ (m - f).toNat)⟩
theorem pl_eq (x : Z4) (e : Int) (y : Z4) (f : Int) : pl x e y f (max e f) = plus x (2 * e) y (2 * f) := by
  unfold plus
  rw [show (max (2 * e) (2 * f) - 2 * e).toNat = 2 * (max e f - e).toNat by omega, show (max (2 * e) (2 * f) - 2 * f).toNat = 2 * (max e f - f).toNat by omega, rtn_two, rtn_two]
  ext <;> simp only [pl, smul, add] <;> grind
/-- shifted, figure by figure -/
def shl (n : Nat) (x : Z4) : Z4 := ⟨x.a * 2 ^ n, x.b * 2 ^ n, x.c * 2 ^ n, x.d * 2 ^ n⟩
theorem shl_eq (n : Nat) (x : Z4) : shl n x = rtn (2 * n) x := by
  rw [rtn_two]
  ext <;> simp only [shl, smul] <;> grind
theorem like_iff {x y : Z4} {e f : Int} (h : Eqv x (2 * e) y (2 * f)) : shl (max e f - e).toNat x = shl (max e f - f).toNat y := by
  have z := h (2 * max e f) (by omega) (by omega)
  unfold ev at z
  rw [show (2 * max e f - 2 * e).toNat = 2 * (max e f - e).toNat by omega, show (2 * max e f - 2 * f).toNat = 2 * (max e f - f).toNat by omega] at z
  rw [shl_eq, shl_eq, z]
theorem bd_pl {n k : Nat} {x y : Z4} {e f m : Int} (h : Bd n x) (g : Bd n y) (h1 : (m - e).toNat ≤ k) (h2 : (m - f).toNat ≤ k) : Bd (n + k + 1) (pl x e y f m) := by
  have one : ∀ {i j : Int}, i.natAbs < 2 ^ n → j.natAbs < 2 ^ n → (i * (1 * 2 ^ (m - e).toNat) + j * (1 * 2 ^ (m - f).toNat)).natAbs < 2 ^ (n + k + 1) := by
    intro i j hi hj
    have pw : ∀ {l : Nat}, l ≤ k → ((1 : Int) * 2 ^ l).natAbs ≤ 2 ^ k := fun {l} hl => by
      rw [Int.one_mul, Int.natAbs_pow]
      exact two_le hl
    have a1 : (i * (1 * 2 ^ (m - e).toNat)).natAbs < 2 ^ (n + k) := by
      rw [Int.natAbs_mul, Nat.pow_add]
      exact Nat.lt_of_le_of_lt (Nat.mul_le_mul_left _ (pw h1)) (Nat.mul_lt_mul_of_pos_right hi (Nat.pow_pos (by decide)))
    have a2 : (j * (1 * 2 ^ (m - f).toNat)).natAbs < 2 ^ (n + k) := by
      rw [Int.natAbs_mul, Nat.pow_add]
      exact Nat.lt_of_le_of_lt (Nat.mul_le_mul_left _ (pw h2)) (Nat.mul_lt_mul_of_pos_right hj (Nat.pow_pos (by decide)))
    have e2 : 2 ^ (n + k + 1) = 2 ^ (n + k) + 2 ^ (n + k) := by rw [Nat.pow_succ]; omega
    rw [e2]
    generalize (i * (1 * 2 ^ (m - e).toNat)) = u at *
    generalize (j * (1 * 2 ^ (m - f).toNat)) = v at *
    omega
  exact ⟨one h.1 g.1, one h.2.1 g.2.1, one h.2.2.1 g.2.2.1, one h.2.2.2 g.2.2.2⟩
end Zw
set_option Elab.async false
set_option linter.all false
set_option maxRecDepth 100000
set_option maxHeartbeats 2000000
/-! # Dn: dicts -/
namespace Dn
open PySem PySem.Spec PyProof.Rows L2

section
variable {X : Cx} {pins : List (Addr × Obj)} {σ : L2.St} {F H : Hp} {s : Shared}
mutual
theorem key_is (I : Inv X pins σ H s) : ∀ (d : D) (v : V) (u : Value) (k : NestedKey), RepF X.K H v d → RelV v u → keyOf d = some k → NestedIs s.heap k u
  | .int i, v, u, k, r, ru, e => by
    cases e
    rw [r.int_inv] at ru
    obtain ⟨t, rfl⟩ := ru
    exact .int i t
  | .tuple ds, v, u, k, r, ru, e => by
    cases q : keysOf ds with
    | none => rw [keyOf, q] at e; cases e
    | some ks =>
      rw [keyOf, q] at e
      cases e
      obtain ⟨a, vs, rfl, h1, h2⟩ := r.tup_inv
      obtain rfl : u = Value.ref a := ru
      obtain ⟨its, rv, ⟨o, ho, hc, n, hd⟩, _⟩ := I.tuple h1
      exact .tup ho hc hd (by simpa using keys_is I ds vs its ks h2 rv q)
  | .none, _, _, _, _, _, e => by cases e
  | .bool _, _, _, _, _, _, e => by cases e
  | .str _, _, _, _, _, _, e => by cases e
  | .list _, _, _, _, _, _, e => by cases e
  | .dict _, _, _, _, _, _, e => by cases e
theorem keys_is (I : Inv X pins σ H s) : ∀ (ds : List D) (vs : List V) (us : List Value) (ks : List NestedKey), RepFs X.K H vs ds → Vals vs us → keysOf ds = some ks → NestedAll s.heap ks us
  | [], _, _, _, r, ru, e => by cases e; cases r; cases ru; exact .nil
  | d :: ds, _, _, ks, r, ru, e => by
    cases r with
    | cons r1 r2 =>
      cases ru with
      | cons u1 u2 =>
        cases q : keyOf d with
        | none => rw [keysOf, q] at e; cases e
        | some k =>
          cases q2 : keysOf ds with
          | none => rw [keysOf, q, q2] at e; cases e
          | some ks' =>
            rw [keysOf, q, q2] at e
            cases e
            exact .cons (key_is I d _ _ k r1 u1 q) (keys_is I ds _ _ ks' r2 u2 q2)
end
/-- what the table of a dict with tuple keys says -/
theorem RepTs.get {K : PySem.W.Frag} {kvs : List (NestedKey × Addr × V)} {kds : List (D × D)} (r : RepTs K F kvs kds) : ∀ {i : Nat} {kd d : D}, kds[i]? = some (kd, d) → ∃ k q v, kvs[i]? = some (k, q, v) ∧ RepF K F (.ref q) kd ∧ keyOf kd = some k ∧ k.depth ≤ 8 ∧ RepF K F v d := by
  induction kds generalizing kvs with
  | nil => intro i kd d e; simp at e
  | cons p kds ih =>
    intro i kd d e
    cases r with
    | cons h1 h2 h3 h4 h5 =>
      cases i with
      | zero => simp at e; obtain ⟨rfl, rfl⟩ := e; exact ⟨_, _, _, rfl, h1, h2, h3, h4⟩
      | succ i => exact ih h5 (by simpa using e)
theorem RepTs.getV {K : PySem.W.Frag} {kvs : List (NestedKey × Addr × V)} {kds : List (D × D)} (r : RepTs K F kvs kds) : ∀ {i : Nat} {k : NestedKey} {q : Addr} {v : V}, kvs[i]? = some (k, q, v) → ∃ kd d, kds[i]? = some (kd, d) ∧ RepF K F (.ref q) kd ∧ keyOf kd = some k ∧ k.depth ≤ 8 ∧ RepF K F v d := by
  induction kds generalizing kvs with
  | nil => intro i k q v e; cases r; simp at e
  | cons p kds ih =>
    intro i k q v e
    cases r with
    | cons h1 h2 h3 h4 h5 =>
      cases i with
      | zero => simp at e; obtain ⟨rfl, rfl, rfl⟩ := e; exact ⟨_, _, rfl, h1, h2, h3, h4⟩
      | succ i => exact ih h5 (by simpa using e)
theorem RepTs.length {K : PySem.W.Frag} {kvs : List (NestedKey × Addr × V)} {kds : List (D × D)} (r : RepTs K F kvs kds) : kvs.length = kds.length := by
  induction kds generalizing kvs with
  | nil => cases r; rfl
  | cons p kds ih => cases r with
    | cons _ _ _ _ h5 => simp [ih h5]
theorem RepTs.set {K : PySem.W.Frag} {kvs : List (NestedKey × Addr × V)} {kds : List (D × D)} (r : RepTs K F kvs kds) : ∀ {i : Nat} {k : NestedKey} {q : Addr} {v v' : V} {kd d d' : D}, kvs[i]? = some (k, q, v) → kds[i]? = some (kd, d) → RepF K F v' d' → RepTs K F (kvs.set i (k, q, v')) (kds.set i (kd, d')) := by
  induction kds generalizing kvs with
  | nil => intro i k q v v' kd d d' e1 e2; simp at e2
  | cons p kds ih =>
    intro i k q v v' kd d d' e1 e2 rv
    cases r with
    | cons h1 h2 h3 h4 h5 =>
      cases i with
      | zero =>
        simp at e1 e2
        obtain ⟨rfl, rfl, rfl⟩ := e1
        obtain ⟨rfl, rfl⟩ := e2
        exact .cons h1 h2 h3 rv h5
      | succ i => exact .cons h1 h2 h3 h4 (ih h5 (by simpa using e1) (by simpa using e2) rv)
theorem RepTs.snoc {K : PySem.W.Frag} {kvs : List (NestedKey × Addr × V)} {kds : List (D × D)} (r : RepTs K F kvs kds) {k : NestedKey} {q : Addr} {v : V} {kd d : D} (h1 : RepF K F (.ref q) kd) (h2 : keyOf kd = some k) (h3 : k.depth ≤ 8) (h4 : RepF K F v d) : RepTs K F (kvs ++ [(k, q, v)]) (kds ++ [(kd, d)]) := by
  induction kds generalizing kvs with
  | nil => cases r; exact .cons h1 h2 h3 h4 .nil
  | cons p kds ih => cases r with
    | cons g1 g2 g3 g4 g5 => exact .cons g1 g2 g3 g4 (ih g5)
theorem RepTs.hash {K : PySem.W.Frag} {kvs : List (NestedKey × Addr × V)} {kds : List (D × D)} (r : RepTs K F kvs kds) (w w' : World) : ∀ p ∈ kvs, p.1.hash w = p.1.hash w' := fun p hp => by
  obtain ⟨i, hi⟩ := List.mem_iff_getElem?.mp hp
  obtain ⟨kd, d, _, _, e, _⟩ := r.getV (k := p.1) (q := p.2.1) (v := p.2.2) hi
  exact keyOf_hash w w' kd _ e

/-- the dict itself -/
theorem dk_rd' (I : Inv X pins σ H s) {a : Addr} {kvs : List (NestedKey × Addr × V)} {kds : List (D × D)} (h : Rd H a (DkO a kvs)) (r : RepTs X.K H kvs kds) :
    kvs.length ≤ sizeLine ∧ (a == sysModules) = false ∧ ∃ xs : List (NestedKey × Addr × Value), Paired (fun (p : NestedKey × Addr × V) (q : NestedKey × Addr × Value) => p.1 = q.1 ∧ p.2.1 = q.2.1 ∧ RelV p.2.2 q.2.2) kvs xs ∧ s.heap.DictOfH (nestedKind X.prog X.w) a xs := by
  obtain ⟨⟨z, hd, xs, pr, ob, es, ep, h1, h2, h3, h4, h5⟩, _⟩ := h.ok I.hok
  refine ⟨z, hd, xs, pr, ob, es, ep, h1, h2, h3, h4 _ _, fun x hx => ?_, h5⟩
  obtain ⟨i, hi⟩ := List.mem_iff_getElem?.mp hx
  have hl := Paired.length pr
  have hil : i < kvs.length := by have := (List.getElem?_eq_some_iff.mp hi).1; omega
  obtain ⟨p, hp⟩ : ∃ p, kvs[i]? = some p := ⟨kvs[i], List.getElem?_eq_getElem hil⟩
  obtain ⟨b, hb, e1, e2, _⟩ := paired_get pr hp
  rw [hi] at hb
  cases hb
  obtain ⟨kd, d, _, g1, g2, g3, _⟩ := r.getV (k := p.1) (q := p.2.1) (v := p.2.2) hp
  rw [← e1, ← e2]
  exact ⟨key_is I kd _ _ _ g1 rfl g2, g3⟩
theorem nodup_keys {xs : List (NestedKey × Addr × Value)} {kvs : List (NestedKey × Addr × V)} (pr : Paired (fun (p : NestedKey × Addr × V) (q : NestedKey × Addr × Value) => p.1 = q.1 ∧ p.2.1 = q.2.1 ∧ RelV p.2.2 q.2.2) kvs xs) : kvs.map (·.1) = xs.map (·.1) := by
  induction pr with
  | nil => rfl
  | cons h t ih => rw [List.map_cons, List.map_cons, h.1, ih]
theorem room8 {A : Around} (hu : A.units + 64 < cLine) : A.in1.units + 8 < cLine := by
  show A.units + 1 + 8 < cLine
  omega
/-- a[y] of a dict with tuple keys -/
def rIxDt (K : PySem.W.Frag) : R2 := fun x y H Q => ∃ (a : Addr) (kvs : List (NestedKey × Addr × V)) (kds : List (D × D)) (kd d : D) (i : Nat) (v : V), x = .ref a ∧ Rd H a (DkO a kvs) ∧ RepTs K H kvs kds ∧ RepF K H y kd ∧ kds[i]? = some (kd, d) ∧ (∃ k q, kvs[i]? = some (k, q, v)) ∧ Q v H
theorem ref_of {K : PySem.W.Frag} {y : V} {kd : D} {q : Addr} (r : RepF K F y kd) (r' : RepF K F (.ref q) kd) : ∃ b, y = .ref b := by
  cases r' with
  | lst _ _ => obtain ⟨b, _, rfl, _⟩ := r.lst_inv; exact ⟨b, rfl⟩
  | tup _ _ => obtain ⟨b, _, rfl, _⟩ := r.tup_inv; exact ⟨b, rfl⟩
  | dic _ _ => cases r with
    | dic _ _ => exact ⟨_, rfl⟩
    | dit _ _ => exact ⟨_, rfl⟩
  | dit _ _ => cases r with
    | dic _ _ => exact ⟨_, rfl⟩
    | dit _ _ => exact ⟨_, rfl⟩
theorem ix_dt (hu : X.A.units + 64 < cLine) : IxR X (rIxDt X.K) := by
  intro value slice pins s σ H x y v u Q I rx ry h hs
  obtain ⟨a, kvs, kds, kd, d, i, z, rfl, ha, rt, rk, hk, ⟨k, q, hv⟩, h⟩ := h
  obtain rfl : v = Value.ref a := rx
  obtain ⟨hz, hd, xs, pr, hm⟩ := dk_rd' I ha rt
  obtain ⟨k', q', z', e1, g1, g2, g3, g4⟩ := rt.get hk
  rw [hv] at e1
  cases e1
  obtain ⟨b, rfl⟩ := ref_of rk g1
  obtain rfl : u = Value.ref b := ry
  obtain ⟨⟨xk, xq, xv⟩, hb, f1, f2, f3⟩ := paired_get pr hv
  cases f1
  have hat : atKey xs k = some (xq, xv) := atKey_of_get (by obtain ⟨_, _, _, _, _, _, _, _, hn⟩ := hm; exact hn) hb
  exact subscriptTail_builtinR (x := xv) hm.typeIs PySem.F.slot_dict_getitem.lookup
    (wpAny_getItem_heap (show (nestedKind X.prog X.w).room X.A.in1 from room8 hu) ⟨key_is I kd _ _ _ rk rfl g2, g3⟩ hm hat ⟨rfl, z, H, I.tok _, f3, h⟩) hs
/-- a[y] of a dict with plain keys -/
def rIxDk : R2 := fun x y H Q => ∃ (a : Addr) (kvs : List (Key × V)) (k : Key) (v : V), x = .ref a ∧ y = kV k ∧ Rd H a (.dK kvs) ∧ (∃ i : Nat, kvs[i]? = some (k, v)) ∧ Q v H
theorem kv_at {kvs : List (Key × V)} {vs : List (Key × Value)} (r : KV kvs vs) : kvs.map (·.1) = vs.map (·.1) := by
  unfold KV at r
  induction r with
  | nil => rfl
  | cons h t ih => rw [List.map_cons, List.map_cons, h.1, ih]
theorem find_at {κ α : Type} [DecidableEq κ] {kvs : List (κ × α)} (hn : (kvs.map (·.1)).Nodup) {i : Nat} {k : κ} {v : α} (h : kvs[i]? = some (k, v)) : (kvs.find? fun kv => decide (kv.1 = k)) = some (k, v) := by
  induction kvs generalizing i with
  | nil => simp at h
  | cons p kvs ih =>
    rw [List.map_cons, List.nodup_cons] at hn
    cases i with
    | zero => simp at h; subst h; simp
    | succ i =>
      have h' : kvs[i]? = some (k, v) := by simpa using h
      have hm : k ∈ kvs.map (·.1) := List.mem_map.mpr ⟨(k, v), List.mem_of_getElem? h', rfl⟩
      have hne : ¬ p.1 = k := fun e => hn.1 (e ▸ hm)
      rw [List.find?_cons, show decide (p.1 = k) = false from decide_eq_false hne]
      exact ih hn.2 h'
theorem ix_dk : IxR X rIxDk := by
  intro value slice pins s σ H x y v u Q I rx ry h hs
  obtain ⟨a, kvs, k, z, rfl, rfl, g, ⟨i, hi⟩, q⟩ := h
  obtain rfl : v = Value.ref a := rx
  obtain ⟨hz, hd, vs, rel, dd⟩ := dk_rd I.hok g
  obtain ⟨⟨k', w'⟩, hw, e1, rw'⟩ := paired_get rel hi
  cases e1
  have hn : (vs.map (·.1)).Nodup := by obtain ⟨_, _, _, _, _, _, _, _, hn⟩ := dd; exact hn
  have hv : valueAt vs k = some w' := by unfold valueAt; rw [find_at hn hw]; rfl
  exact subscriptTail_builtinR (x := w') dd.typeIs PySem.F.slot_dict_getitem.lookup (wpAny_getItem_of (kV_is ry) dd.mapOf hv ⟨rfl, z, H, I.tok _, rw', q⟩) hs
theorem atKey_some {K : PySem.W.Frag} {xs : List (NestedKey × Addr × Value)} {kvs : List (NestedKey × Addr × V)} {kds : List (D × D)} (pr : Paired (fun (p : NestedKey × Addr × V) (q : NestedKey × Addr × Value) => p.1 = q.1 ∧ p.2.1 = q.2.1 ∧ RelV p.2.2 q.2.2) kvs xs) (rt : RepTs K F kvs kds) {kd : D} {k : NestedKey} (e : keyOf kd = some k) :
    (atKey xs k).isSome = true ↔ kd ∈ kds.map (·.1) := by
  have hl := Paired.length pr
  constructor
  · intro h
    unfold atKey at h
    rw [Option.isSome_map, List.find?_isSome] at h
    obtain ⟨x, hx, hk⟩ := h
    have hk := of_decide_eq_true hk
    obtain ⟨i, hi⟩ := List.mem_iff_getElem?.mp hx
    have hil : i < kvs.length := by have := (List.getElem?_eq_some_iff.mp hi).1; omega
    obtain ⟨p, hp⟩ : ∃ p, kvs[i]? = some p := ⟨kvs[i], List.getElem?_eq_getElem hil⟩
    obtain ⟨b, hb, e1, e2, _⟩ := paired_get pr hp
    rw [hi] at hb
    cases hb
    obtain ⟨kd', d, g0, g1, g2, g3, _⟩ := rt.getV (k := p.1) (q := p.2.1) (v := p.2.2) hp
    have : kd' = kd := keyOf_inj kd' kd k (by rw [g2, e1, hk]) e
    subst this
    exact List.mem_map.mpr ⟨(kd', d), List.mem_of_getElem? g0, rfl⟩
  · intro h
    obtain ⟨⟨kd', d⟩, hm, rfl⟩ := List.mem_map.mp h
    obtain ⟨i, hi⟩ := List.mem_iff_getElem?.mp hm
    obtain ⟨k', q, v, e1, _, g2, _⟩ := rt.get hi
    have e : keyOf kd' = some k := e
    rw [g2] at e
    cases e
    obtain ⟨b, hb, f1, f2, _⟩ := paired_get pr e1
    unfold atKey
    rw [Option.isSome_map, List.find?_isSome]
    exact ⟨b, List.mem_of_getElem? hb, decide_eq_true f1.symm⟩
/-- y in a -/
def rInDt (K : PySem.W.Frag) (neg : Bool) : R2 := fun x y H Q => ∃ (a : Addr) (kvs : List (NestedKey × Addr × V)) (kds : List (D × D)) (es : List D) (k : NestedKey) (b : Bool), y = .ref a ∧ Rd H a (DkO a kvs) ∧ RepTs K H kvs kds ∧ RepF K H x (.tuple es) ∧ keyOf (.tuple es) = some k ∧ k.depth ≤ 8 ∧ (b = true ↔ .tuple es ∈ kds.map (·.1)) ∧ Q (.bl (neg ^^ b)) H
theorem bool_same {a b : Bool} {p : Prop} (h : a = true ↔ p) (g : b = true ↔ p) : a = b := by
  cases a <;> cases b <;> simp_all
theorem in_dt (hu : X.A.units + 64 < cLine) : OpR X (compareOp .In) (rInDt X.K false) := by
  intro pins s σ H x y v u Q I rx ry h
  obtain ⟨a, kvs, kds, es, k, b, rfl, ha, rt, rk, ek, dk, hb, h⟩ := h
  obtain rfl : u = Value.ref a := ry
  obtain ⟨hz, hd, xs, pr, hm⟩ := dk_rd' I ha rt
  have ki := key_is I _ x v k rk rx ek
  obtain ⟨c, _, rfl, _⟩ := rk.tup_inv
  obtain rfl : v = Value.ref c := rx
  refine wpAny_in_heap (show (nestedKind X.prog X.w).room X.A.in1 from room8 hu) ⟨ki, dk⟩ hd hm ?_
  rw [bool_same (atKey_some pr rt ek) hb]
  exact ⟨.bl b, H, I.tok _, rfl, by simpa using h⟩
theorem notIn_dt (hu : X.A.units + 64 < cLine) : OpR X (compareOp .NotIn) (rInDt X.K true) := by
  intro pins s σ H x y v u Q I rx ry h
  obtain ⟨a, kvs, kds, es, k, b, rfl, ha, rt, rk, ek, dk, hb, h⟩ := h
  obtain rfl : u = Value.ref a := ry
  obtain ⟨hz, hd, xs, pr, hm⟩ := dk_rd' I ha rt
  have ki := key_is I _ x v k rk rx ek
  obtain ⟨c, _, rfl, _⟩ := rk.tup_inv
  obtain rfl : v = Value.ref c := rx
  refine wpAny_notIn_heap (show (nestedKind X.prog X.w).room X.A.in1 from room8 hu) ⟨ki, dk⟩ hd hm ?_
  rw [bool_same (atKey_some pr rt ek) hb]
  exact ⟨.bl (!b), H, I.tok _, rfl, by simpa using h⟩
theorem dk_obj {P : Program} {w : World} {H' : Hp} {h' : Heap} {a : Addr} {kvs : List (NestedKey × Addr × V)} (h : DkP a kvs h') : ObjOk P w H' h' a (DkO a kvs) := by
  refine ⟨h, ?_, fun h1 h2 q st => ?_⟩
  · obtain ⟨_, _, _, _, o, _, _, e, _⟩ := h; exact ⟨o, e⟩
  · obtain ⟨z, hd, xs, pr, ob, es, ep, g1, g2⟩ := q
    exact ⟨z, hd, xs, pr, ob, es, ep, st _ g1, g2⟩
theorem putAt_set {xs : List (NestedKey × Addr × Value)} (hn : (xs.map (·.1)).Nodup) {i : Nat} {k : NestedKey} {q : Addr} {v u : Value} (h : xs[i]? = some (k, q, v)) : xs.map (putAt k u) = xs.set i (k, q, u) := by
  refine List.ext_getElem? fun j => ?_
  rw [List.getElem?_map, List.getElem?_set]
  by_cases e : i = j
  · subst e
    rw [h, if_pos rfl, if_pos (List.getElem?_eq_some_iff.mp h).1]
    simp [putAt]
  · rw [if_neg e]
    cases q2 : xs[j]? with
    | none => rfl
    | some x =>
      have : ¬ x.1 = k := fun z => e (idxH_unique hn (p := (q, v)) (q := x.2) (k := k) h (by rw [q2, ← z]))
      simp [putAt, this]
theorem paired_set {α β : Type} {R : α → β → Prop} {xs : List α} {ys : List β} (h : Paired R xs ys) {i : Nat} {x : α} {y : β} (r : R x y) : Paired R (xs.set i x) (ys.set i y) := by
  induction h generalizing i with
  | nil => exact .nil
  | cons h t ih => cases i with
    | zero => exact .cons r t
    | succ i => exact .cons h ih
/-- a[y] = v -/
def rPutDt (K : PySem.W.Frag) : TSet := fun o i v H Q => ∃ (a : Addr) (kvs : List (NestedKey × Addr × V)) (kds : List (D × D)) (es : List D) (k : NestedKey) (c : Addr), o = .ref a ∧ H a = some (DkO a kvs) ∧ RepTs K H kvs kds ∧ i = .ref c ∧ RepF K H (.ref c) (.tuple es) ∧ keyOf (.tuple es) = some k ∧ k.depth ≤ 8 ∧
  ((∃ (j : Nat) (q : Addr) (v0 : V), kvs[j]? = some (k, q, v0) ∧ Q (upd H a (DkO a (kvs.set j (k, q, v))))) ∨ (.tuple es ∉ kds.map (·.1) ∧ kvs.length < sizeLine ∧ Q (upd H a (DkO a (kvs ++ [(k, c, v)])))))
theorem put_dt (hu : X.A.units + 64 < cLine) : PSet X (rPutDt X.K) := by
  intro pins s σ H o i v ov iv u Q I ro ri rv h
  obtain ⟨a, kvs, kds, es, k, c, rfl, ha, rt, rfl, rk, ek, dk, h⟩ := h
  obtain rfl : ov = Value.ref a := ro
  obtain rfl : iv = Value.ref c := ri
  obtain ⟨hz, hd, xs, pr, hm⟩ := dk_rd' I (.of ha) rt
  have ki := key_is I _ _ _ k rk rfl ek
  have hlx := Paired.length pr
  refine wpAny_setItem_heap (hsz := by omega) (show (nestedKind X.prog X.w).room X.A.in1 from room8 hu) ⟨ki, dk⟩ hm fun h' dd' hs => ?_
  obtain ⟨ob, es', ep, g1, g2, g3, g4, _, g5⟩ := dd'
  have fin : ∀ kvs', Paired (fun (p : NestedKey × Addr × V) (q : NestedKey × Addr × Value) => p.1 = q.1 ∧ p.2.1 = q.2.1 ∧ RelV p.2.2 q.2.2) kvs' (storedH xs k c u) → kvs'.length ≤ sizeLine → (∀ p ∈ kvs', ∀ w w', p.1.hash w = p.1.hash w') → Inv X pins σ (upd H a (DkO a kvs')) { s with heap := h', toks := s.toks + (nestedKind X.prog X.w).draws k } := by
    intro kvs' pr' hl' hh
    have new : DkP a kvs' h' := by
      refine ⟨hl', hd, storedH xs k c u, pr', ob, es', ep, g1, g2, g3, fun P w => ?_, g5⟩
      rw [g4]
      refine List.map_congr_left fun x hx => ?_
      obtain ⟨i, hi⟩ := List.mem_iff_getElem?.mp hx
      have hl2 := Paired.length pr'
      have hil : i < kvs'.length := by have := (List.getElem?_eq_some_iff.mp hi).1; omega
      obtain ⟨p, hp⟩ : ∃ p, kvs'[i]? = some p := ⟨kvs'[i], List.getElem?_eq_getElem hil⟩
      obtain ⟨b, hb, e1, _, _⟩ := paired_get pr' hp
      rw [hi] at hb
      cases hb
      show DictEntry.mk (x.1.hash X.w) _ _ = DictEntry.mk (x.1.hash w) _ _
      rw [← e1, hh p (List.mem_of_getElem? hp) X.w w]
    exact d_write I (by rw [ha]; exact True.intro) hs ⟨ob, g1⟩ (dk_obj new)
  have hash := fun w w' => rt.hash w w'
  rcases h with ⟨j, q, v0, hj, h⟩ | ⟨hno, hlt, h⟩
  · obtain ⟨⟨xk, xq, xv⟩, hb, f1, f2, f3⟩ := paired_get pr hj
    simp only at f1 f2
    subst f1 f2
    have hn : (xs.map (·.1)).Nodup := by obtain ⟨_, _, _, _, _, _, _, _, hn⟩ := hm; exact hn
    have hat := atKey_of_get hn hb
    refine ⟨_, fin (kvs.set j (k, q, v)) ?_ (by rw [List.length_set]; exact hz) fun p hp w w' => ?_, h⟩
    · rw [storedH_old hat, putAt_set hn hb]
      exact paired_set pr ⟨rfl, rfl, rv⟩
    · obtain ⟨i, hi⟩ := List.mem_iff_getElem?.mp hp
      rw [List.getElem?_set] at hi
      split at hi
      · split at hi
        · cases hi
          exact keyOf_hash w w' _ k ek
        · cases hi
      · exact hash w w' p (List.mem_of_getElem? hi)
  · have hat : atKey xs k = none := by
      cases q : atKey xs k with
      | none => rfl
      | some z => exact absurd ((atKey_some pr rt ek).mp (by rw [q]; rfl)) hno
    refine ⟨_, fin (kvs ++ [(k, c, v)]) ?_ (by rw [List.length_append]; exact hlt) fun p hp w w' => ?_, h⟩
    · rw [storedH_new hat]
      exact Paired.snoc pr ⟨rfl, rfl, rv⟩
    · rcases List.mem_append.mp hp with hp | hp
      · exact hash w w' p hp
      · rw [List.mem_singleton.mp hp]
        exact keyOf_hash w w' _ k ek
/-- {} -/
def tDNewTt : TE := fun _ H Q => ∀ p, H p = none → Q (.ref p) (upd H p (DkO p []))
theorem pe_dnewTt {pos : Pos} : PE X (.Dict [] [] pos) tDNewTt := ⟨fun pins s σ H Q I h =>
  wpAny_Dict_empty ⟨.ref s.heap.objs.size, _, I.laid (a := s.heap.objs.size) (o := DkO s.heap.objs.size []) (t' := s.toks) (fun _ _ q => Heap.get?_push_of_some _ q) (Nat.le_refl _)
    (dk_obj ⟨Nat.zero_le _, beq_eq_false_iff_ne.mpr (Ne.symm (Nat.ne_of_lt I.big)), [], .nil, _, #[], 0, Heap.get?_push_size _ rfl, ⟨rfl, rfl, rfl⟩, rfl, fun _ _ => rfl, List.nodup_nil⟩), rfl, h _ (I.hok.fresh (Nat.le_refl _))⟩⟩
/-! ### keys walked -/
def Itkd (d : Addr) (o : Obj) (kvs : List (NestedKey × Addr × V)) : It :=
  ⟨fun i H => H d = some (.frz o (DkO d kvs)) ∧ i < kvs.length, fun i H x H' => H' = H ∧ ∃ (k : NestedKey) (q : Addr) (v : V), kvs[i]? = some (k, q, v) ∧ x = .ref q, fun i H => H d = some (.frz o (DkO d kvs)) ∧ kvs.length ≤ i⟩
theorem frzD (I : Inv X pins σ H s) {d : Addr} {o : Obj} {kvs : List (NestedKey × Addr × V)} (h : H d = some (.frz o (DkO d kvs))) :
    (d == sysModules) = false ∧ s.heap.get? d = some o ∧ o.ExactDict ∧ ∃ (es : Array DictEntry) (ep : Nat), o.data = .dict es ep ∧ es.size = kvs.length ∧
      ∀ (i : Nat) (k : NestedKey) (q : Addr) (v : V), kvs[i]? = some (k, q, v) → ∃ (en : DictEntry), es[i]? = some en ∧ en.key = .ref q := by
  obtain ⟨hd, ⟨z, hs, xs, pr, o', es, ep, ho, hx, hdt, he, _⟩, _⟩ := I.hok d _ h
  rw [hd] at ho
  cases ho
  have he' := he X.prog X.w
  refine ⟨hs, hd, hx, es, ep, hdt, ?_, fun i k q v e => ?_⟩
  · have l1 : es.size = xs.length := size_of_entries he'
    have l2 : kvs.length = xs.length := Paired.length pr
    omega
  · obtain ⟨b, hb, e1, e2, _⟩ := paired_get pr e
    have g := entry_at he' i
    rw [hb] at g
    refine ⟨_, g, ?_⟩
    show Value.ref b.2.1 = Value.ref q
    rw [← e2]
end
section
variable {P : Program} {w : World} {K : PySem.W.Frag} {tg : Expr} {d : Addr} {o : Obj} {es : Array DictEntry} {ep : Nat}
theorem turn_keysD {kvs : List (NestedKey × Addr × V)} (it : Addr) (hod : o.data = .dict es ep) : Turn P w K tg (Itkd d o kvs) [it] it (fun i h => h.IsKeyIter it d i kvs.length ep) where
  mem := by simp
  obj := fun i h st b hb => by
    have e : b = it := by simpa using hb
    subst e
    obtain ⟨oi, e, c, dd⟩ := st
    exact ⟨oi, e, fun v z => by rw [dd] at z; cases z⟩
  keep := fun i h h' st k => st.at fun oi e => k it (by simp) oi e
  item := by
    intro X hP hw hK hc i pins s σ H E I hf st hg
    subst hP hw hK
    obtain ⟨hd, hi⟩ := hg
    obtain ⟨f0, f1, f2, f3, f4, f5⟩ := hf it (by simp)
    obtain ⟨hs, hgd, hx, es', ep', hdt, hsz, ent⟩ := frzD I hd
    obtain ⟨rfl, rfl⟩ := dict_ep hod hdt
    obtain ⟨⟨k, q, v⟩, hkv⟩ : ∃ p, kvs[i]? = some p := ⟨kvs[i], List.getElem?_eq_getElem hi⟩
    obtain ⟨en, hen, hkey⟩ := ent i k q v hkv
    refine next_key_item st hgd hdt hsz hen fun h' st' sb => ?_
    have I1 : Inv X pins σ H { s with heap := h' } := I.turned (t' := s.toks) (fun b ob hb e => (sb.2 b hb).trans e) f0 f1 f3 f4 f5
    obtain ⟨oi, e, c, dd⟩ := id st'
    exact ⟨en.key, rfl, go_of (s := { s with heap := h' }) e c dd (by decide) ⟨.ref q, H, I1, hkey, ⟨rfl, k, q, v, hkv, rfl⟩, st', fun b hb => (hf b hb).1⟩⟩
  done := by
    intro X hP hw hK hc i pins s σ H E I hf st hg
    subst hP hw hK
    obtain ⟨hd, hi⟩ := hg
    obtain ⟨f0, f1, f2, f3, f4, f5⟩ := hf it (by simp)
    obtain ⟨hs, hgd, hx, es', ep', hdt, hsz, ent⟩ := frzD I hd
    obtain ⟨rfl, rfl⟩ := dict_ep hod hdt
    exact next_key_end (I.ok.hd hc) st hgd hdt hsz hi fun h' eb => ⟨rfl, I.turned (t' := s.toks) (fun b ob hb e => eb b ob hb e) f0 f1 f3 f4 f5⟩
  self := fun A i s Q E st h => by
    refine wpAny_pyIter_slot st.typeIs PySem.F.slot_dict_keyiterator_iter (wpAny_call_entry PySem.F.slot_dict_keyiterator_iter st.typeIs PySem.F.entry_dict_keyiterator_iter ?_ (PySem.F.args_dict_keyiterator_iter_1 _))
    show wpAny _ _ (ret (.ref it)) _ _ s
    exact wpAny_pure ⟨_, rfl, "dict_keyiterator", _, st.typeIs, PySem.F.slot_dict_keyiterator_next.lookup, h⟩
def iKeysD (td : TE) : TI := fun σ H R => td σ H fun x H1 => ∃ d o, x = .ref d ∧ ((∃ kvs, H1 d = some (.frz o (.dK kvs)) ∧ R (Itk d o kvs) H1) ∨ ∃ kvs, H1 d = some (.frz o (DkO d kvs)) ∧ R (Itkd d o kvs) H1)
theorem pi_keysD {X : Cx} {tg e : Expr} {td : TE} (he : PE X e td) : PI X tg e (iKeysD td) := by
  refine ⟨fun pins s σ H R I h => ?_⟩
  refine thn (he.run pins s σ H _ I h) fun u s1 ⟨x, H1, I1, rx, d, o, ex, q⟩ => ?_
  subst ex
  obtain rfl : u = Value.ref d := rx
  rcases q with ⟨kvs, hd, q⟩ | ⟨kvs, hd, q⟩
  · obtain ⟨hs, hgd, hx, es, ep, vs, hdt, hsz, kv, hm⟩ := I1.frzK hd
    refine iter_keys hs hgd hx hdt (pi_one (tk := s1.toks) I1 _ (turn_keys _ hdt) ⟨_, Heap.get?_push_size _ rfl, rfl, ?_⟩ q)
    rw [hsz] <;> rfl
  · obtain ⟨hs, hgd, hx, es, ep, hdt, hsz, ent⟩ := frzD I1 hd
    refine iter_keys hs hgd hx hdt (pi_one (tk := s1.toks) I1 _ (turn_keysD _ hdt) ⟨_, Heap.get?_push_size _ rfl, rfl, ?_⟩ q)
    rw [hsz] <;> rfl
/-- the value just told is locked for good -/
def tLockR (t : TE) : TE := fun σ H Q => t σ H fun v H1 => ∃ d u, v = .ref d ∧ H1 d = some u ∧ Mut (some u) ∧ ∀ od, Q v (upd H1 d (.frz od u))
theorem pe_lockR {X : Cx} {e : Expr} {t : TE} (h : PE X e t) : PE X e (tLockR t) := by
  refine ⟨fun pins s σ H Q I hw => ?_⟩
  refine thn (h.run pins s σ _ _ I hw) fun v s1 ⟨x, H1, I2, r, d, u, ex, hd, mu, q⟩ => ?_
  obtain ⟨od, I3⟩ := I2.lock hd mu
  exact ⟨x, _, I3, r, q od⟩
end

/-! ### over plain data -/
section
variable {X : Cx} {ow : Ow} {B : Bs} {a b c e tg : Expr} {te ta td : DT} {tb tk : DB} {pos px : Pos} {k : Nat}
theorem RepKs.get {K : PySem.W.Frag} {F : Hp} {kvs : List (Key × V)} {kds : List (D × D)} (r : RepKs K F kvs kds) : ∀ {i : Nat} {kd d : D}, kds[i]? = some (kd, d) → ∃ k v, kvs[i]? = some (k, v) ∧ kd = keyD k ∧ RepF K F v d := by
  induction kds generalizing kvs with
  | nil => intro i kd d e; simp at e
  | cons p kds ih =>
    intro i kd d e
    cases r with
    | cons h1 h2 =>
      cases i with
      | zero => simp at e; obtain ⟨rfl, rfl⟩ := e; exact ⟨_, _, rfl, rfl, h1⟩
      | succ i => exact ih h2 (by simpa using e)
theorem RepKs.getV {K : PySem.W.Frag} {F : Hp} {kvs : List (Key × V)} {kds : List (D × D)} (r : RepKs K F kvs kds) : ∀ {i : Nat} {k : Key} {v : V}, kvs[i]? = some (k, v) → ∃ d, kds[i]? = some (keyD k, d) ∧ RepF K F v d := by
  induction kds generalizing kvs with
  | nil => intro i k v e; cases r; simp at e
  | cons p kds ih =>
    intro i k v e
    cases r with
    | cons h1 h2 =>
      cases i with
      | zero => simp at e; obtain ⟨rfl, rfl⟩ := e; exact ⟨_, rfl, h1⟩
      | succ i => exact ih h2 (by simpa using e)
theorem RepKs.length {K : PySem.W.Frag} {F : Hp} {kvs : List (Key × V)} {kds : List (D × D)} (r : RepKs K F kvs kds) : kvs.length = kds.length := by
  induction kds generalizing kvs with
  | nil => cases r; rfl
  | cons p kds ih => cases r with
    | cons _ h5 => simp [ih h5]
theorem keyD_kV {K : PySem.W.Frag} {F : Hp} {v : V} {k : Key} (r : RepF K F v (keyD k)) : v = kV k := by
  cases k with
  | inl i => exact r.int_inv
  | inr x => exact r.str_inv
theorem RepB.keyD {K : PySem.W.Frag} {F H : Hp} {v : V} {k : Key} (r : RepB K F H v (keyD k)) : v = kV k := by
  cases k with
  | inl i => exact r.int_inv
  | inr x => exact r.str_inv
theorem RepB.tupF {K : PySem.W.Frag} {F H : Hp} {v : V} {ds : List D} (r : RepB K F H v (.tuple ds)) : RepF K F v (.tuple ds) := by
  rcases r with r | ⟨_, _, _, _, e, _⟩
  · exact r
  · cases e
/-- what a dict's object gives -/
def rIxDa (K : PySem.W.Frag) : R2 := fun x y H Q => rIxDk x y H Q ∨ rIxDt K x y H Q
theorem ix_da (hr : Room k X.A) : IxR X (rIxDa X.K) := ix_dk.or (ix_dt hr.units)
/-- a[b]: a row, a text, a dict that stands still -/
def dIxA : D → D → (Rv → Prop) → Prop := fun d e k => match d with
  | .dict ps => ∃ (i : Nat) (v : D), ps[i]? = some (e, v) ∧ k (.fro v)
  | d => dIx d e k
def rIxAll (K : PySem.W.Frag) : R2 := fun x y H Q => rIx K x y H Q ∨ rIxDa K x y H Q
theorem RepTs.tupKey {K : PySem.W.Frag} {F H : Hp} {y : V} {kd : D} {q : Addr} (r : RepB K F H y kd) (r' : RepF K F (.ref q) kd) {k : NestedKey} (e : keyOf kd = some k) : RepF K F y kd := by
  rcases r with r | ⟨_, _, _, _, rfl, _⟩
  · exact r
  · cases e
theorem od_ixA {K : PySem.W.Frag} : OpD K (rIxAll K) dIxA := by
  intro ow B Γ F w σ H x y d e k Q S rx ry h a
  unfold dIxA at h
  split at h
  · rename_i ps
    obtain ⟨i, v, hi, h⟩ := h
    rcases rx with rx | ⟨_, _, _, _, e, _⟩
    · cases rx with
      | dic h1 h2 =>
        obtain ⟨k', v', e1, e2, r⟩ := h2.get hi
        subst e2
        exact .inr (.inl ⟨_, _, k', v', rfl, ry.keyD, .inr ⟨_, S.sub _ _ h1⟩, ⟨i, e1⟩, a.val S r h⟩)
      | dit h1 h2 =>
        obtain ⟨k', q, v', e1, g1, g2, g3, r⟩ := h2.get hi
        exact .inr (.inr ⟨_, _, ps, e, v, i, v', rfl, .inr ⟨_, S.sub _ _ h1⟩, h2.mono S.sub, (RepTs.tupKey ry g1 g2).mono S.sub, hi, ⟨_, _, e1⟩, a.val S r h⟩)
    · cases e
  · exact .inl (od_ix S rx ry h a)
theorem de_ixA (hr : Room k X.A) (ha : DE X ow B a ta) (hb : BE X ow B b tb) (hs : PlainIx b := by exact fun _ _ => rfl) : DE X ow B (.Subscript a b pos) (dOp dIxA ta tb) := (pe_ix (ix_seq.or (ix_da hr)) ha hb hs).conv fun _ _ _ h => op_conv od_ixA h
/-- a dict of one's own, looked at -/
def dIxD (i : Nat) (tb : DB) : DT := fun Γ k => match Γ[i]? with
  | some (some _) => tb Γ fun e Γ1 => match Γ1[i]? with
    | some (some (.dct kds)) => ∃ (j : Nat) (v : D), kds[j]? = some (e, v) ∧ k (.fro v) Γ1
    | some (some (.dtt kds)) => ∃ (j : Nat) (v : D), kds[j]? = some (e, v) ∧ k (.fro v) Γ1
    | _ => False
  | _ => False
theorem de_ixD (hr : Room k X.A) {i : Nat} {x : Str} (ha : PE X (.Name x px) (tVar i)) (hb : BE X ow B b tb) (hs : PlainIx b := by exact fun _ _ => rfl) : DE X ow B (.Subscript (.Name x px) b pos) (dIxD i tb) := (pe_ix (ix_da hr) ha hb hs).conv fun σ H Q ⟨Γ, F, w, S, k, q, hk⟩ => by
  unfold dIxD at q
  split at q
  · rename_i ρ0 e0
    obtain ⟨v, A, h1, r, _⟩ := S.slot i _ e0
    refine ⟨v, h1, Γ, F, w, S, _, q, fun e Γ1 F1 w1 H1 v1 q1 e1 S1 r1 => ?_⟩
    split at q1
    · rename_i kds e2
      obtain ⟨j, d, hj, q2⟩ := q1
      obtain ⟨v', A', h1', r', _⟩ := S1.slot i _ e2
      rw [h1] at h1'; cases h1'
      obtain ⟨l, kvs, rfl, z1, z2, _⟩ := r'
      obtain ⟨k', v', g1, g2, rv⟩ := z2.get hj
      subst g2
      exact .inl ⟨l, kvs, k', v', rfl, r1.keyD, .of z1, ⟨j, g1⟩, hk _ _ _ _ _ _ _ q2 e1 S1 ⟨rv, rfl⟩ Tmp.nil⟩
    · rename_i kds e2
      obtain ⟨j, d, hj, q2⟩ := q1
      obtain ⟨v', A', h1', r', _⟩ := S1.slot i _ e2
      rw [h1] at h1'; cases h1'
      obtain ⟨l, kvs, rfl, z1, z2, _⟩ := r'
      obtain ⟨k', q', v', g1, g2, g3, g4, rv⟩ := z2.get hj
      exact .inr ⟨l, kvs, kds, e, d, j, v', rfl, .of z1, z2.mono S1.sub, (RepTs.tupKey r1 g2 g3).mono S1.sub, hj, ⟨_, _, g1⟩, hk _ _ _ _ _ _ _ q2 e1 S1 ⟨rv, rfl⟩ Tmp.nil⟩
    · exact q1.elim
  · exact q.elim
/-- {} -/
def dNewK : DT := fun Γ k => k (.dct []) Γ
def dNewT : DT := fun Γ k => k (.dtt []) Γ
theorem Aft.newO {K : PySem.W.Frag} {Γ : Ge} {F : Hp} {w : Addr → Nat} {σ : L2.St} {H : Hp} {k : Rv → Prop} {Q : VK} (a : Aft K ow B Γ F σ k Q) (S : Sim K ow B Γ F w σ H) {ρ : Rv} {o : HO} {p : Addr} (hp : H p = none) (r : RepR K F (upd H p o) (.ref p) ρ [p]) (h : k ρ) : Q (.ref p) (upd H p o) := by
  obtain ⟨f, z⟩ := S.fresh hp
  refine a ρ F (wset w p 0) _ (.ref p) [p] h (Same.refl F) (S.grow (same_upd hp) fun b hb => wset_ne fun e => hb (by rw [e]; exact hp)) r fun b hb => ?_
  rw [List.mem_singleton.mp hb]
  exact ⟨wset_same, f, z⟩
theorem de_newK : DE X ow B (.Dict [] [] pos) dNewK := pe_dnewK.conv fun σ H Q ⟨Γ, F, w, S, k, q, hk⟩ => fun p hp =>
  Aft.newO (ρ := .dct []) (k := fun ρ => k ρ Γ) (fun ρ F' w' H' v3 A3 k3 e3 S3 r3 t3 => hk ρ _ _ _ _ _ _ k3 e3 S3 r3 t3) S hp ⟨p, [], rfl, upd_same, .nil, rfl⟩ q
theorem de_newT : DE X ow B (.Dict [] [] pos) dNewT := pe_dnewTt.conv fun σ H Q ⟨Γ, F, w, S, k, q, hk⟩ => fun p hp =>
  Aft.newO (ρ := .dtt []) (k := fun ρ => k ρ Γ) (fun ρ F' w' H' v3 A3 k3 e3 S3 r3 t3 => hk ρ _ _ _ _ _ _ k3 e3 S3 r3 t3) S hp ⟨p, [], rfl, upd_same, .nil, rfl⟩ q
/-- made to stand still: a dict -/
def dFd (t : DT) : DT := fun Γ k => t Γ fun ρ Γ1 => match ρ with
  | .dct kds => k (.fro (.dict kds)) Γ1
  | .dtt kds => k (.fro (.dict kds)) Γ1
  | _ => False
theorem Sim.lockF {K : PySem.W.Frag} {Γ : Ge} {F : Hp} {w : Addr → Nat} {σ : L2.St} {H : Hp} (S : Sim K ow B Γ F w σ H) {p : Addr} {o : HO} (h0 : w p = 0) (hf : F p = none) (hb : B.H0 p = none) : Sim K ow B Γ (upd F p o) w σ (upd H p o) := by
  have S1 := S.upd0 (o := o) h0 hf hb
  refine S1.freeze (same_upd hf) (fun b u h => ?_) fun b u h => ?_
  · by_cases e : b = p
    · subst e; rw [upd_same] at h ⊢; exact h
    · rw [upd_ne e] at h ⊢; exact S.sub _ _ h
  · by_cases e : b = p
    · subst e; exact .inr ⟨h0, hb⟩
    · rw [upd_ne e] at h; exact .inl h
theorem _root_.L2.PE.frd {e : Expr} {t : DT} (h : DE X ow B e t) : DE X ow B e (dFd t) := (pe_lockR h).conv fun σ H Q ⟨Γ, F, w, S, k, q, hk⟩ => by
  refine ⟨Γ, F, w, S, _, q, fun ρ Γ1 F1 w1 H1 v A q1 e1 S1 r1 t1 => ?_⟩
  split at q1
  · rename_i kds
    obtain ⟨l, kvs, rfl, z1, z2, rfl⟩ := r1
    obtain ⟨y0, y1, y2⟩ := t1 l (by simp)
    refine ⟨l, _, rfl, z1, True.intro, fun od => ?_⟩
    have e2 : Same F1 (upd F1 l (.frz od (.dK kvs))) := same_upd y1
    exact hk _ _ _ _ _ _ _ q1 (e1.trans e2) (S1.lockF y0 y1 y2) ⟨.dic upd_same (z2.mono e2), rfl⟩ Tmp.nil
  · rename_i kds
    obtain ⟨l, kvs, rfl, z1, z2, rfl⟩ := r1
    obtain ⟨y0, y1, y2⟩ := t1 l (by simp)
    refine ⟨l, _, rfl, z1, True.intro, fun od => ?_⟩
    have e2 : Same F1 (upd F1 l (.frz od (DkO l kvs))) := same_upd y1
    exact hk _ _ _ _ _ _ _ q1 (e1.trans e2) (S1.lockF y0 y1 y2) ⟨.dit upd_same (z2.mono e2), rfl⟩ Tmp.nil
  · exact q1.elim
/-- for x in d -/
def dKeys (te : DT) : DI := fun Γ k => te Γ fun ρ Γ1 => ρ.frz fun d => match d with
  | .dict ps => k (ps.map (·.1)) none Γ1
  | _ => False
theorem wk_keysK {K : PySem.W.Frag} {a : Addr} {o : Obj} {kvs : List (Key × V)} {kds : List (D × D)} {F1 : Hp} (h : F1 a = some (.frz o (.dK kvs))) (r : RepKs K F1 kvs kds) : Wk K ow (Itk a o kvs) (kds.map (·.1)) none F1 where
  go := fun B i Γ F w σ H d hd S e _ => by
    rw [List.getElem?_map] at hd
    obtain ⟨p, hp, rfl⟩ := Option.map_eq_some_iff.mp hd
    obtain ⟨k, v, g1, g2, g3⟩ := r.get (kd := p.1) (d := p.2) hp
    refine ⟨⟨S.sub _ _ (e _ _ h), (List.getElem?_eq_some_iff.mp g1).1⟩, fun x H' y => ?_⟩
    obtain ⟨e2, k', v', y1, rfl⟩ := y
    subst e2
    rw [g1] at y1
    cases y1
    refine ⟨F, w, Same.refl F, S, ?_⟩
    rw [g2]
    cases k with
    | inl i => exact .int i
    | inr x => exact .str x
  stop := fun B Γ F w σ H S e _ => ⟨S.sub _ _ (e _ _ h), by rw [r.length, List.length_map]; exact Nat.le_refl _⟩
theorem wk_keysT {K : PySem.W.Frag} {a : Addr} {o : Obj} {kvs : List (NestedKey × Addr × V)} {kds : List (D × D)} {F1 : Hp} (h : F1 a = some (.frz o (DkO a kvs))) (r : RepTs K F1 kvs kds) : Wk K ow (Itkd a o kvs) (kds.map (·.1)) none F1 where
  go := fun B i Γ F w σ H d hd S e _ => by
    rw [List.getElem?_map] at hd
    obtain ⟨p, hp, rfl⟩ := Option.map_eq_some_iff.mp hd
    obtain ⟨k, q, v, g1, g2, g3, g4, g5⟩ := r.get (kd := p.1) (d := p.2) hp
    refine ⟨⟨S.sub _ _ (e _ _ h), (List.getElem?_eq_some_iff.mp g1).1⟩, fun x H' y => ?_⟩
    obtain ⟨e2, k', q', v', y1, rfl⟩ := y
    subst e2
    rw [g1] at y1
    cases y1
    exact ⟨F, w, Same.refl F, S, g2.mono e⟩
  stop := fun B Γ F w σ H S e _ => ⟨S.sub _ _ (e _ _ h), by rw [r.length, List.length_map]; exact Nat.le_refl _⟩
theorem di_keys (h : DE X ow B e te) : IE X ow B tg e (dKeys te) := (pi_keysD h).conv fun σ H R ⟨Γ, F, w, S, k, q, hk⟩ =>
  ⟨Γ, F, w, S, _, q, fun ρ Γ1 F1 w1 H1 v1 A1 q1 e1 S1 r1 t1 => by
    obtain ⟨d, F1', q1', e1', S1', r1'⟩ := S1.frz r1 t1 q1
    cases d with
    | dict ps =>
      cases r1' with
      | dic h1 h2 => exact ⟨_, _, rfl, .inl ⟨_, S1'.sub _ _ h1, hk _ _ _ _ _ _ _ q1' (e1.trans e1') S1' (wk_keysK h1 h2)⟩⟩
      | dit h1 h2 => exact ⟨_, _, rfl, .inr ⟨_, S1'.sub _ _ h1, hk _ _ _ _ _ _ _ q1' (e1.trans e1') S1' (wk_keysT h1 h2)⟩⟩
    | _ => exact q1'.elim⟩
end
end Dn
set_option Elab.async false
set_option linter.all false
set_option maxRecDepth 100000
set_option maxHeartbeats 4000000
/-! # Dn: set(list of ints), sorted of what is alike, index -/
namespace Dn
open PySem PySem.Spec PyProof.Rows L2

/-! ### set(xs), xs a list of ints -/
section
variable {P : Program} {w : World} {A : Around} {E : Value → Shared → Prop} {s : Shared}
theorem set_of_list {l : Addr} {items : Array Value} (ns : List Int) {Q : Value → Shared → Prop} (hh : A.handled = none) (hl : s.heap.IsList l items) (hit : IntsAre items.toList ns) (hb : ns.length + 1 < scanBound)
    (h : ∀ (h' : Heap) (tk c : Nat), SetR w h' s.heap.objs.size (fun j => decide (j ∈ ns)) c → c ≤ ns.length → (∀ b o, s.heap.get? b = some o → h'.get? b = some o) → Q (.ref s.heap.objs.size) { s with heap := h', toks := tk }) :
    wpAny (model P w) A (call (.type "set") [.ref l]) Q E s := by
  have len : items.size = ns.length := by rw [← Array.length_toList]; exact IntsAre.length hit
  generalize hob : ({ cls := .type "set", dict := none, data := .set #[] 0 (.fresh 0 0 (!w.params.followText "set-order")) } : Obj) = so
  obtain ⟨c, tl, hmro⟩ := PySem.F.called_set.mro
  have h0 := PySem.F.called_set.made
  have h00 := PySem.F.called_set.sub
  have h1 := PySem.F.called_set.notType
  have h2 := PySem.F.called_set.canCreate
  have h3 := PySem.F.typeCall_set_1 (.ref l)
  refine wpAny_call (codeAny_of_tree ?_)
  show wpAny _ _ (callAny (.type "set") _) _ _ _
  refine wpAny_pure ⟨Code.quiet_builtin _ (by decide +kernel), codeAny_builtin PySem.F.entry_type_call ?_⟩
  rw [Around.under_plain (weight_type_call_type "set" [.ref l] []) rfl]
  repeat (any_goals (first | assumption | wp_step))
  refine codeAny_mono (code_set_led1 (.ref l) (E := E) (Q₁ := fun v t => v = .ref s.heap.objs.size ∧ t = { s with heap := s.heap.push so }) ⟨rfl, by rw [hob]⟩) fun r s₁ hr => ?_
  match r, hr with
  | .error e, hr => exact hr
  | .ok .next, hr => exact hr.elim
  | .ok .brk, hr => exact hr.elim
  | .ok .cont, hr => exact hr.elim
  | .ok (.ret v), hr =>
    obtain ⟨rfl, rfl⟩ := hr
    have g0 : (s.heap.push so).get? s.heap.objs.size = some so := Heap.get?_push_size _ (by rw [← hob]; rfl)
    have ty : Shared.TypeIs { s with heap := s.heap.push so } (.ref s.heap.objs.size) "set" := ⟨_, g0, by rw [← hob]⟩
    have i1 := PySem.F.called_set.init.lookup
    have i2 := PySem.F.called_set.init.bind (.ref s.heap.objs.size)
    repeat (any_goals (first | assumption | wp_step))
    refine codeAny_mono (codeAny_call_builtin (R := wants (fun r t => r = .none ∧ ∃ h' tk c, t = { s with heap := h', toks := tk } ∧ SetR w h' s.heap.objs.size (fun j => decide (j ∈ ns)) c ∧ c ≤ ns.length ∧
        ∀ b o, s.heap.get? b = some o → h'.get? b = some o) E) PySem.F.called_set.init.plain PySem.F.entry_set_init (check_set_init_1 ty ?_)) fun r₂ s₂ hr₂ => ?_
    · subst hob
      obtain ⟨⟨ocls, odict, odata, oslots⟩, hol, hcl, nl, hdl⟩ := hl
      obtain rfl : ocls = .type "list" := hcl
      obtain rfl : odata = .seq items nl := hdl
      have lt : l < s.heap.objs.size := Heap.lt_size hol
      have at2 : (s.heap.push _).get? l = some _ := Heap.get?_push_of_some { cls := .type "set", dict := none, data := .set #[] 0 (.fresh 0 0 (!w.params.followText "set-order")) } hol
      have isl : (s.heap.push { cls := .type "set", dict := none, data := .set #[] 0 (.fresh 0 0 (!w.params.followText "set-order")) }).IsList l items := ⟨_, at2, rfl, nl, rfl⟩
      have hsls := PySem.F.sub_list_set
      have hslf := PySem.F.sub_list_frozenset
      have hne : (Value.type "list" == Value.type "dict") = false := by decide
      have h4 : A.in1.in1.in1.handled = none := by simp [hh]
      have z1 : (s.heap.push { cls := .type "set", dict := none, data := .set #[] 0 (.fresh 0 0 (!w.params.followText "set-order")) }).objs.size = s.heap.objs.size + 1 := Heap.size_push ..
      unfold Builtin.«set.__init__» noKeywords Builtin.Frozenset.updateFrom
      generalize hPI : pyIter = PI
      wp_walk
      subst hPI
      refine wpAny_pyIter_list isl ?_
      refine wpAny_bind (wpAny_runValue ?_)
      have val : ∀ (i : Nat) (v : Value), items[i]? = some v → ∃ k t, ns[i]? = some k ∧ v = .int k t := fun i v hv => by
        obtain ⟨t, e⟩ := PyProof.Rows.IntsAre.int_at hit i v (by rw [Array.getElem?_toList]; exact hv)
        have hi : i < ns.length := by have := (Array.getElem?_eq_some_iff.mp hv).1; omega
        exact ⟨_, t, List.getElem?_eq_getElem hi, by rw [e, List.getD_eq_getElem?_getD, List.getElem?_eq_getElem hi] <;> rfl⟩
      refine set_update_ints ((Walks.list h4 _ l (by rw [z1]; exact Nat.ne_of_lt (Nat.lt_succ_of_lt lt)) items).toS) s.heap.objs.size (by rw [z1]; simp only [List.mem_cons, List.not_mem_nil, or_false, not_or]; exact ⟨Nat.ne_of_lt (Nat.lt_succ_self _), Nat.ne_of_gt lt⟩) ns len hb val (items.size - 0) 0 _ (by omega) (Nat.zero_le _) ⟨⟨_, Heap.get?_push_size _ rfl, rfl, rfl⟩, isl.push _⟩ ⟨0, Nat.le_refl 0, setR_new_at (Heap.get?_push_of_some _ g0)⟩ fun s' c' hm hc' hS' => ?_
      obtain ⟨h', g2, d', tk', os'⟩ := s'
      obtain rfl : g2 = s.gens := hm.gens
      obtain rfl : d' = s.drawn := hm.drawn
      obtain rfl : os' = s.os := hm.os
      show wpAny _ _ _ _ _ _
      refine wpAny_pure ?_
      show wpAny _ _ (ret Value.none) _ _ _
      refine wpAny_pure ⟨rfl, h', tk', c', rfl, hS', by omega, fun b o e => ?_⟩
      have := Heap.lt_size e
      exact hm.heap b o (by rw [z1]; simp only [List.mem_cons, List.not_mem_nil, or_false, not_or]; exact ⟨Nat.ne_of_lt this, Nat.ne_of_lt (Nat.lt_succ_of_lt this)⟩) (Heap.get?_push_of_some _ (Heap.get?_push_of_some _ e))
    · match r₂, hr₂ with
      | .error e, hr₂ => exact hr₂
      | .ok .next, hr₂ => exact hr₂.elim
      | .ok .brk, hr₂ => exact hr₂.elim
      | .ok .cont, hr₂ => exact hr₂.elim
      | .ok (.ret v), hr₂ =>
        obtain ⟨rfl, h', tk, c', rfl, a1, a2, a3⟩ := hr₂
        repeat (any_goals (first | assumption | wp_step))
        exact h _ _ _ a1 a2 a3
end
end Dn
set_option Elab.async false
set_option linter.all false
set_option maxRecDepth 100000
set_option maxHeartbeats 4000000
/-! # Dn: sorted, index -/
namespace Dn
open PySem PySem.Spec PyProof.Rows L2

mutual
def noDic : D → Bool
  | .dict _ => false
  | .list xs => noDics xs
  | .tuple xs => noDics xs
  | .none => true
  | .bool _ => true
  | .int _ => true
  | .str _ => true
def noDics : List D → Bool
  | [] => true
  | d :: ds => noDic d && noDics ds
end
section
variable {K : PySem.W.Frag} {F F' H : Hp}
mutual
theorem RepF.dpN {v : V} : ∀ {d : D}, noDic d = true → RepF K F v d → Dp K F v d
  | _, _, .non => .non
  | _, _, .bl b => .bl b
  | _, _, .int i => .int i
  | _, _, .str x => .str x
  | _, c, .lst h hs => .lst (SqL.of h) (RepFs.dpN c hs)
  | _, c, .tup h hs => .tup h.t (RepFs.dpN c hs)
  | _, c, .dic h hs => by cases c
  | _, c, .dit h hs => by cases c
theorem RepFs.dpN {vs : List V} : ∀ {ds : List D}, noDics ds = true → RepFs K F vs ds → DpAll K F vs ds
  | _, _, .nil => .nil
  | _, c, .cons h hs => by
    have c' := Bool.and_eq_true_iff.mp c
    exact .cons (RepF.dpN c'.1 h) (RepFs.dpN c'.2 hs)
end
end
mutual
theorem noDic_alike : ∀ d : D, PySem.W.alike d d = true → noDic d = true
  | .dict _, h => by simp [PySem.W.alike] at h
  | .list xs, h => noDics_alike xs (by simpa [PySem.W.alike] using h)
  | .tuple xs, h => noDics_alike xs (by simpa [PySem.W.alike] using h)
  | .none, _ => rfl
  | .bool _, _ => rfl
  | .int _, _ => rfl
  | .str _, _ => rfl
theorem noDics_alike : ∀ ds : List D, PySem.W.alikeAll ds ds = true → noDics ds = true
  | [], _ => rfl
  | d :: ds, h => by
    have h' := Bool.and_eq_true_iff.mp (by simpa [PySem.W.alikeAll] using h)
    exact Bool.and_eq_true_iff.mpr ⟨noDic_alike d h'.1, noDics_alike ds h'.2⟩
end
theorem noDics_of : ∀ {ds : List D}, (∀ d ∈ ds, noDic d = true) → noDics ds = true
  | [], _ => rfl
  | d :: ds, h => Bool.and_eq_true_iff.mpr ⟨h d (by simp), noDics_of fun e he => h e (by simp [he])⟩

/-- what may be sorted -/
structure SrtOk (ds : List D) : Prop where
  al : PySem.W.AllAlike ds
  so : PySem.W.Sortable ds
  dp : ∀ d ∈ ds, d.depth ≤ 100
def sortD (ds : List D) : List D := ds.mergeSort (PySem.W.dataLe false id)
def rSortA (K : PySem.W.Frag) : List V → Hp → VK → Prop := fun xs H Q => ∃ (a : Addr) (t : Bool) (vs : List V) (ds : List D) (F : Hp), xs = [V.ref a] ∧ SqB K t H a vs ∧ Same F H ∧ RepFs K F vs ds ∧ SrtOk ds ∧ ∀ vs' p, H p = none → RepFs K F vs' (sortD ds) → Q (.ref p) (upd H p (.lst vs'))
mutual
theorem reads_there {h : Heap} : ∀ (d : D) (v : Value) (as : List Addr), noDic d = true → Reads h v d as → ∀ a ∈ as, ∃ o, h.get? a = some o
  | .none, _, _, _, r, a, ha => by cases r; cases ha
  | .bool _, _, _, _, r, a, ha => by cases r; cases ha
  | .int _, _, _, _, r, a, ha => by cases r; cases ha
  | .str _, _, _, _, r, a, ha => by cases r; cases ha
  | .list xs, _, _, n, r, a, ha => by
    cases r with
    | list h1 h2 h3 h4 =>
      rcases List.mem_cons.mp ha with e | ha
      · rw [e]; exact ⟨_, h1⟩
      · exact readsAll_there xs _ _ n h4 a ha
  | .tuple xs, _, _, n, r, a, ha => by
    cases r with
    | tuple h1 h2 h3 h4 => exact readsAll_there xs _ _ n h4 a ha
  | .dict _, _, _, n, _, _, _ => by cases n
theorem readsAll_there {h : Heap} : ∀ (ds : List D) (vs : List Value) (as : List Addr), noDics ds = true → ReadsAll h vs ds as → ∀ a ∈ as, ∃ o, h.get? a = some o
  | [], _, _, _, r, a, ha => by cases r; cases ha
  | d :: ds, _, _, n, r, a, ha => by
    have n' := Bool.and_eq_true_iff.mp n
    cases r with
    | cons h1 h2 =>
      rcases List.mem_append.mp ha with ha | ha
      · exact reads_there d _ _ n'.1 h1 a ha
      · exact readsAll_there ds _ _ n'.2 h2 a ha
end
theorem each_mp {α β : Type} {R S : α → β → Prop} {vs : List α} {bs : List β} (h : PySem.W.EachIs R vs bs) (f : ∀ v b, b ∈ bs → R v b → S v b) : PySem.W.EachIs S vs bs := by
  induction h with
  | nil => exact .nil
  | cons r t ih => exact .cons (f _ _ (by simp) r) (ih fun v b hb => f v b (by simp [hb]))
theorem get_size (h : Heap) : h.get? h.objs.size = none := by
  cases q : h.get? h.objs.size with
  | none => rfl
  | some o => exact absurd (Heap.lt_size q) (Nat.lt_irrefl _)
theorem get_back {h h' : Heap} (k : ∀ b o, h.get? b = some o → h'.get? b = some o) {p : Addr} (n : h'.get? p = none) : h.get? p = none := by
  cases q : h.get? p with
  | none => rfl
  | some o => rw [k _ _ q] at n; cases n
/-- a new thing where nothing stood -/
theorem inv_new {X : Cx} {pins : List (Addr × Obj)} {σ : L2.St} {H : Hp} {s : Shared} {p : Addr} {o : HO} {h' : Heap} {t' : Nat} (I : Inv X pins σ H s) (k : ∀ b u, s.heap.get? b = some u → h'.get? b = some u) (hp : s.heap.get? p = none) (new : ObjOk X.prog X.w (upd H p o) h' p o) :
    H p = none ∧ Inv X pins σ (upd H p o) { s with heap := h', toks := t' } := by
  have ne : ∀ b u, s.heap.get? b = some u → b ≠ p := fun b u q e => by rw [e, hp] at q; cases q
  have hn : H p = none := by
    cases q : H p with
    | none => rfl
    | some u =>
      have ok := I.hok p u q
      have : ∃ ob, s.heap.get? p = some ob := by
        cases u with
        | lst xs => obtain ⟨_, _, _, _, e⟩ := ok; exact ⟨_, e⟩
        | tup xs => obtain ⟨_, _, _, ob, e, _⟩ := ok; exact ⟨ob, e⟩
        | dK kvs => obtain ⟨_, _, _, _, ob, _, _, e, _⟩ := ok; exact ⟨ob, e⟩
        | dT kvs => obtain ⟨_, _, _, _, ob, _, _, e, _⟩ := ok; exact ⟨ob, e⟩
        | set S n => obtain ⟨ob, _, _, _, e, _⟩ := ok; exact ⟨ob, e⟩
        | ins C dx fs => obtain ⟨_, _, _, e, _⟩ := ok; exact ⟨_, e⟩
        | own y => exact ok
        | xd fs => obtain ⟨_, ⟨ob, _, _, e, _⟩, _⟩ := ok; exact ⟨ob, e⟩
        | rng lo hi => obtain ⟨_, _, _, e⟩ := ok; exact ⟨_, e⟩
        | frz ob u => exact ⟨ob, ok.1⟩
        | tbl ps => exact ⟨_, show s.heap.get? p = some _ from ok⟩
        | met f y => exact ⟨_, show s.heap.get? p = some _ from ok⟩
        | ext φ => exact ok.2.1
      obtain ⟨ob, e⟩ := this
      rw [hp] at e
      cases e
  have sm : ∀ b u, H b = some u → upd H p o b = some u := fun b u q => by rw [upd_ne (ne_of_none q hn)]; exact q
  exact ⟨hn, I.un ⟨fun b u q _ _ _ => k b u q, fun b u q _ _ _ => ⟨u.slots, k b u q⟩, fun b u q n _ => by rw [upd_ne (ne b u q)]; exact n, fun b u q _ => ⟨u, k b u q⟩, fun b xs q => sm _ _ q, fun b u xs q => sm _ _ q, fun b ps q => ⟨#[], by rw [sm _ _ q]; simp⟩⟩ fun b u e => by
    by_cases hb : b = p
    · subst hb; rw [upd_same] at e; cases e; exact new
    · rw [upd_ne hb] at e
      exact (I.hok b u e).stay (fun c v _ q => k c v q) (fun c q => sm _ _ q) fun c xs q => sm _ _ q⟩
section
variable {P : Program} {w : World} {A : Around} {E : Value → Shared → Prop} {s : Shared}
theorem sorted_tuple {l : Addr} {vs : List Value} {β : Type} {bs : List β} {enc : β → D} {R : Value → β → Prop} {Q : Value → Shared → Prop} (hl : s.heap.IsTuple l vs.toArray) (e : PySem.W.EachIs R vs bs) (er : PySem.W.EachIs (fun v b => ∃ as, Reads s.heap v (enc b) as) vs bs) (hal : PySem.W.AllAlike (bs.map enc)) (hk : PySem.W.Sortable (bs.map enc)) (hL : bs.length ≤ sizeLine)
    (hu : ∀ b, b ∈ bs → A.units + 2 + (enc b).depth < cLine) (h : ∀ (h' : Heap) (p : Addr) (out : List Value) (c : Nat), (∀ b o, s.heap.get? b = some o → h'.get? b = some o) → s.heap.get? p = none → h'.get? p = some (seqObj "list" out.toArray c) → out.length = bs.length → PySem.W.EachIs R out (bs.mergeSort (PySem.W.dataLe false enc)) → Q (.ref p) { s with heap := h' }) :
    wpAny (model P w) A (call (.builtin "sorted") [.ref l]) Q E s := by
  obtain ⟨o, ho, hc, n, hd⟩ := id hl
  have hlen := e.length
  refine Calls.call_function_entry kind_sorted plain_sorted entry_sorted (args_sorted1 _) ?_
  unfold Builtin.«sorted»
  refine wpAny_bind (m := checkCount "sorted" 1 1 _) (wpAny_pure ?_)
  refine wpAny_bind (wpAny_collect_seq l (.inr rfl) ho hc hd (fun h1 k1 => ?_) (by rw [List.size_toArray]; omega))
  refine wpAny_bind (wpAny_newList ?_ (by simp; omega))
  have at1 : (h1.push (seqObj "list" vs.toArray 0)).get? h1.objs.size = some (seqObj "list" vs.toArray 0) := Heap.get?_push_size _ rfl
  have k2 : ∀ b o, s.heap.get? b = some o → (h1.push (seqObj "list" vs.toArray 0)).get? b = some o := fun b o q => Heap.get?_push_of_some _ (k1 b o q)
  refine wpAny_bind (wpAny_holding (PySem.W.list_sort_data (a := h1.objs.size) at1 e (each_mp er fun v b hb ⟨as, r⟩ => ⟨as, PyProof.Rows.Reads.keeps k2 r, fun z => ?_⟩) hal hk hL (fun b hb => ?_) fun out e1 e2 => ?_))
  · obtain ⟨o', q⟩ := reads_there _ _ _ (noDic_alike _ (hal _ (List.mem_map.mpr ⟨b, hb, rfl⟩) _ (List.mem_map.mpr ⟨b, hb, rfl⟩))) r _ z
    rw [get_size h1 |> get_back k1] at q
    cases q
  · have := hu b hb
    show A.units + 1 + 1 + _ < cLine
    omega
  · obtain ⟨c, hc2⟩ := sortedHeap_at (vs := vs) (out := out.toArray) at1
    refine wpAny_pure ⟨_, rfl, h _ h1.objs.size out c (fun b u q => ?_) (get_back k1 (get_size h1)) hc2 e1 e2⟩
    have q1 := k1 b u q
    have lt := Heap.lt_size q1
    show (sortedHeap (h1.push (seqObj "list" vs.toArray 0)) h1.objs.size vs out.toArray).get? b = some u
    rw [sortedHeap_old (Nat.ne_of_lt lt) (by rw [size_push']; exact Nat.lt_succ_of_lt lt)]
    exact Heap.get?_push_of_some _ q1
end
theorem vals_each {K : PySem.W.Frag} {F : Hp} {vs : List V} {us : List Value} {ds : List D} (rv : Vals vs us) (r : RepFs K F vs ds) : PySem.W.EachIs (fun u d => ∃ v, RelV v u ∧ RepF K F v d) us ds := by
  induction ds generalizing vs us with
  | nil => cases r; cases rv; exact .nil
  | cons d ds ih =>
    cases r with
    | cons h hs => cases rv with
      | cons q qs => exact .cons ⟨_, q, h⟩ (ih qs hs)
theorem each_vals {K : PySem.W.Frag} {F : Hp} {us : List Value} {ds : List D} (e : PySem.W.EachIs (fun u d => ∃ v, RelV v u ∧ RepF K F v d) us ds) : ∃ vs, Vals vs us ∧ RepFs K F vs ds := by
  induction e with
  | nil => exact ⟨[], .nil, .nil⟩
  | cons h t ih =>
    obtain ⟨v, h1, h2⟩ := h
    obtain ⟨vs, g1, g2⟩ := ih
    exact ⟨v :: vs, .cons h1 g1, .cons h2 g2⟩
section
variable {X : Cx} {ow : Ow} {B : Bs} {a b c e : Expr} {ta : DT} {tb : DB} {pos px : Pos} {k : Nat}
theorem cr_sortA (hr : Room k X.A) : CallR X (.builtin "sorted") (rSortA X.K) := by
  intro pins s σ H vs us Q I r h
  obtain ⟨a, t, xs, ds, F, rfl, hs, sub, rf, so, q⟩ := h
  rw [Vals.ref1 r]
  obtain ⟨its, rv, hI, hz⟩ := inv_sqB I hs
  have hl := rf.length
  have hb : ∀ d ∈ ds, X.A.units + 2 + d.depth < cLine := fun d hd => by
    have := so.dp d hd
    have := hr.un
    omega
  have nd : noDics ds = true := noDics_of fun d hd => noDic_alike d (so.al d hd d hd)
  have er : PySem.W.EachIs (fun v d => ∃ as, Reads s.heap v (id d) as) its ds := each_mp (vals_each rv rf) fun u d hd ⟨v, h1, h2⟩ => Dp.reads I d v u (RepF.dpN (noDic_alike d (so.al d hd d hd)) (h2.mono sub)) h1
  have al : PySem.W.AllAlike (ds.map id) := by rw [List.map_id]; exact so.al
  have st : PySem.W.Sortable (ds.map id) := by rw [List.map_id]; exact so.so
  have fin : ∀ (h' : Heap) (p : Addr) (out : List Value) (c : Nat), (∀ b o, s.heap.get? b = some o → h'.get? b = some o) → s.heap.get? p = none → h'.get? p = some (seqObj "list" out.toArray c) → out.length = ds.length → PySem.W.EachIs (fun u d => ∃ v, RelV v u ∧ RepF X.K F v d) out (ds.mergeSort (PySem.W.dataLe false id)) → EP X pins σ Q (.ref p) { s with heap := h' } := by
    intro h' p out c k1 n at_ el eo
    obtain ⟨vs', g1, g2⟩ := each_vals eo
    have len : vs'.length ≤ sizeLine := by rw [Paired.length g1, el, ← hl]; exact hz
    obtain ⟨hn, J⟩ := inv_new (t' := s.toks) (p := p) (o := .lst vs') I k1 n ⟨len, out, c, g1, at_⟩
    exact ⟨.ref p, _, J, rfl, q vs' p hn g2⟩
  cases t with
  | false =>
    exact PySem.W.sorted_data (vs := its) (bs := ds) (enc := id) (show s.heap.IsList a its.toArray from hI) (vals_each rv rf) er al st (by rw [← hl]; exact hz) hb fun out e1 e2 => by
      obtain ⟨c, hc⟩ := sortedAll_at s.heap its out.toArray
      exact fin _ _ out c (fun _ _ => sortedAll_old) (by
        cases q : s.heap.get? (s.heap.objs.size + 1) with
        | none => rfl
        | some o => exact absurd (Heap.lt_size q) (Nat.not_lt.mpr (Nat.le_succ _))) hc e1 e2
  | true =>
    exact sorted_tuple (vs := its) (bs := ds) (enc := id) (show s.heap.IsTuple a its.toArray from hI) (vals_each rv rf) er al st (by rw [← hl]; exact hz) hb fin
/-- sorted(x): a list, a tuple -/
def dSorted : D → (Rv → Prop) → Prop := fun d k => ∃ ds, rowD d = some ds ∧ SrtOk ds ∧ k (.lst (sortD ds))
theorem rowB_inv {K : PySem.W.Frag} {F H : Hp} {v : V} {d : D} {ds : List D} (r : RepB K F H v d) (s : Same F H) (h : rowD d = some ds) : ∃ t a vs, v = .ref a ∧ SqB K t H a vs ∧ RepFs K F vs ds := by
  rcases r with r | ⟨a, vs, es, rfl, rfl, h1, h2⟩
  · obtain ⟨t, a, vs, rfl, g1, g2⟩ := rowD_inv r h
    exact ⟨t, a, vs, rfl, g1.sq s, g2⟩
  · cases h
    exact ⟨false, a, vs, rfl, SqL.of h1, h2⟩
theorem ud_sorted {K : PySem.W.Frag} : UnD K (fun x H Q => rSortA K [x] H Q) dSorted := by
  intro ow B Γ F w σ H x d k Q S rx h a
  obtain ⟨ds, e1, so, h⟩ := h
  obtain ⟨t, l, vs, rfl, g1, g2⟩ := rowB_inv rx S.sub e1
  exact ⟨l, t, vs, ds, F, rfl, g1, S.sub, g2, so, fun vs' p hp g => a.newL S g h hp⟩
theorem bSorted (hr : Room k X.A) (hm : X.mg "sorted" = none) (h : BE X ow B e tb) (hg : Gl X "sorted" := by rfl) (he : starEach (e :: []) X.env = (false, eval e X.env) :: starEach [] X.env := by rfl) (hpl : (backTo pos (starEach [] X.env)).any (·.1) = false := by rfl) : DE X ow B (.Call (.Name "sorted" px) [e] [] pos) (dUn dSorted tb) :=
  de_callB (cr_sortA hr) ud_sorted hg hm (by decide +kernel) h (by decide) (by decide) he hpl
/-! ### sorted(set(x)), x ints -/
def rSetI (K : PySem.W.Frag) (w : World) : List V → Hp → VK → Prop := fun xs H Q => ∃ (a : Addr) (t : Bool) (ns : List Int), xs = [V.ref a] ∧ SqB K t H a (ns.map V.int) ∧ ns.length < 64 ∧ ∀ p c, H p = none → c ≤ ns.length → Q (.ref p) (upd H p (SetO w p (fun j => decide (j ∈ ns)) c))
theorem scan64 {n : Nat} (h : n < 64) : n + 1 < scanBound := by
  have : (65 : Nat) < scanBound := by decide
  omega
theorem cr_setI (hc : X.calm = true) : CallR X (.type "set") (rSetI X.K X.w) := by
  intro pins s σ H vs us Q I r h
  obtain ⟨a, t, ns, rfl, hs, h64, q⟩ := h
  rw [Vals.ref1 r]
  obtain ⟨its, rv, hI, hz⟩ := inv_sqB I hs
  have hi := rv.ints
  have fin : ∀ (h' : Heap) (tk c : Nat), SetR X.w h' s.heap.objs.size (fun j => decide (j ∈ ns)) c → c ≤ ns.length → (∀ b o, s.heap.get? b = some o → h'.get? b = some o) → EP X pins σ Q (.ref s.heap.objs.size) { s with heap := h', toks := tk } := fun h' tk c R hc' k1 =>
    ⟨.ref _, _, I.laid (t' := tk) k1 (Nat.le_refl _) (setO_new R), rfl, q _ c (I.hok.fresh (Nat.le_refl _)) hc'⟩
  cases t with
  | false => exact set_of_list ns (I.ok.hd hc) (show s.heap.IsList a its.toArray from hI) hi (scan64 h64) fin
  | true => exact call_set_tupI ns (I.ok.hd hc) (show s.heap.IsTuple a its.toArray from hI) hi (scan64 h64) fin
def intsD : D → Option (List Int) := fun d => (rowD d).bind go
where go : List D → Option (List Int)
  | [] => some []
  | .int i :: ds => (go ds).map (i :: ·)
  | _ :: _ => none
theorem intsD_map {d : D} {ns : List Int} (h : intsD d = some ns) : rowD d = some (ns.map .int) := by
  unfold intsD at h
  cases q : rowD d with
  | none => rw [q] at h; cases h
  | some ds =>
    rw [q] at h
    have : ∀ (ds : List D) (ns : List Int), intsD.go ds = some ns → ds = ns.map .int := by
      intro ds
      induction ds with
      | nil => intro ns h; cases h; rfl
      | cons d ds ih =>
        intro ns h
        cases d with
        | int i =>
          cases q : intsD.go ds with
          | none => rw [intsD.go, q] at h; cases h
          | some ms => rw [intsD.go, q] at h; cases h; rw [ih ms q]; rfl
        | _ => cases h
    rw [this ds ns h]
theorem intsD_of (ns : List Int) : intsD.go (ns.map .int) = some ns := by
  induction ns with
  | nil => rfl
  | cons n ns ih => show (intsD.go (ns.map .int)).map (n :: ·) = _; rw [ih]; rfl
/-- sorted(set(x)) -/
def dSortSet (tb : DB) : DT := fun Γ k => tb Γ fun d Γ1 => ∃ ns, intsD d = some ns ∧ ns.length < 64 ∧ ∀ ms : List Int, ms.Pairwise (· < ·) → (∀ k, k ∈ ms ↔ k ∈ ns) → ms.length ≤ ns.length → k (.lst (ms.map .int)) Γ1
theorem bSortSet {p2 pos2 : Pos} (hc : X.calm = true) (hm : X.mg "sorted" = none) (hm2 : X.mg "set" = none) (h : BE X ow B e tb) (hg : Gl X "sorted" := by rfl) (hg2 : Gl X "set" := by rfl)
    (he : starEach (e :: []) X.env = (false, eval e X.env) :: starEach [] X.env := by rfl) (hpl : (backTo pos2 (starEach [] X.env)).any (·.1) = false := by rfl)
    (he2 : starEach (.Call (.Name "set" p2) [e] [] pos2 :: []) X.env = (false, eval (.Call (.Name "set" p2) [e] [] pos2) X.env) :: starEach [] X.env := by rfl) (hpl2 : (backTo pos (starEach [] X.env)).any (·.1) = false := by rfl) :
    DE X ow B (.Call (.Name "sorted" px) [.Call (.Name "set" p2) [e] [] pos2] [] pos) (dSortSet tb) :=
  (pe_callB (cr_sortedSet hc) hg hm (by decide +kernel) (pa_cons (pe_callTy (cr_setI hc) hg2 hm2 (by decide +kernel) (pa_cons h pa_nil he) (by decide) (by decide) he hpl) pa_nil he2) (by decide) (by decide) he2 hpl2).conv fun σ H Q ⟨Γ, F, w, S, k, q, hk⟩ =>
  ⟨Γ, F, w, S, _, q, fun d Γ1 F1 w1 H1 v q1 e1 S1 r1 => by
    obtain ⟨ns, en, h64, q1⟩ := q1
    obtain ⟨t, l, vs, rfl, g1, g2⟩ := rowB_inv r1 S1.sub (intsD_map en)
    rw [g2.ints_inv] at g1
    refine ⟨l, t, ns, rfl, g1, h64, fun p c hp hc' => ?_⟩
    refine ⟨p, _, c, rfl, upd_same, by omega, fun ms l2 hm hk2 hl2 hn => ?_⟩
    have S2 : Sim X.K ow B Γ1 F1 (wset w1 p 0) σ (upd H1 p (SetO X.w p (fun j => decide (j ∈ ns)) c)) := S1.grow (same_upd hp) fun b hb => wset_ne fun e => hb (by rw [e]; exact hp)
    exact Aft.newL (k := fun ρ => k ρ Γ1) (fun ρ F' w' H' v3 A3 k3 e3 S3 r3 t3 => hk ρ _ _ _ _ _ _ k3 (e1.trans e3) S3 r3 t3) S2 RepFs.ints (q1 ms hm (fun k => by rw [hk2]; simp) (by omega)) hn⟩
end
end Dn
set_option Elab.async false
set_option linter.all false
set_option maxRecDepth 100000
set_option maxHeartbeats 4000000
/-! # Dn: stores to a dict, in of a dict, index of a row of ints -/
namespace Dn
open PySem PySem.Spec PyProof.Rows L2 PySem.SeqAt
section
variable {X : Cx} {ow : Ow} {B : Bs} {a b c e : Expr} {ta te : DT} {tb : DB} {pos px : Pos} {k : Nat}
/-! ### t.index(k) -/
def rTIdx (K : PySem.W.Frag) : V → List V → Hp → VK → Prop := fun x xs H Q => ∃ (p : Addr) (ns : List Int) (k : Int), x = .ref p ∧ xs = [.int k] ∧ SqT K H p (ns.map V.int) ∧ k ∈ ns ∧ Q (.int (ns.idxOf k : Nat)) H
theorem mt_tidx : MtR X "tuple.index" (rTIdx X.K) := by
  intro pins s σ H x xs v us Q I rx rs h
  obtain ⟨p, ns, k, rfl, rfl, hq, hk, q⟩ := h
  cases rx
  obtain ⟨u, rfl, t, rfl⟩ := vals1 rs
  obtain ⟨its, r, pl, hz⟩ := I.tuple hq
  exact call_tuple_index pl (ItemsEq.ints r.ints) hk ⟨.int _, H, I.tok _, ⟨_, rfl⟩, q⟩
def dTIdx : D → D → (Rv → Prop) → Prop := fun d e k => match d, e with
  | .tuple ds, .int i => ∃ ns : List Int, intsD.go ds = some ns ∧ i ∈ ns ∧ k (.fro (.int (ns.idxOf i : Nat)))
  | _, _ => False
theorem go_ints {ds : List D} {ns : List Int} (h : intsD.go ds = some ns) : ds = ns.map .int := by
  have := intsD_map (d := .list ds) (ns := ns) h
  cases this; rfl
/-- a method of a tuple -/
def tTM (K : PySem.W.Frag) (r : V → List V → Hp → VK → Prop) (to : TE) (t : TA) : TE := fun σ H Q => to σ H fun x H1 => (∃ a vs, x = .ref a ∧ SqN K H1 a vs) ∧ t σ H1 fun xs H2 => r x xs H2 Q
theorem pe_tm {name : Str} {id : String} {o : Expr} {es : List Expr} {to : TE} {t : TA} {apos : Pos} {r : V → List V → Hp → VK → Prop} (slot : Slot "tuple" name id) (hty : typeOf (.builtin id) = pure (.type "method_descriptor")) (hm : MtR X id r) (ho : PE X o to) (ha : PA X (e :: es) t)
    (hbase : attributeBase o name X.env (eval o X.env) = eval o X.env)
    (hfew : ((backTo pos (starEach (e :: es) X.env)).all (fun x => !x.1) && (backToKw pos (keywordEach [] X.env)).all (fun x => x.1.isSome) && decide ((e :: es).length + ([] : List Keyword).length + (if ([] : List Keyword).isEmpty then 0 else 1) < 30)) = true)
    (hline : (apos.endLine == pos.line) = true) (hs : starEach (e :: es) X.env = (false, eval e X.env) :: starEach es X.env) (hplain : (backTo pos (starEach es X.env)).any (·.1) = false) :
    PE X (.Call (.Attribute o name apos) (e :: es) [] pos) (tTM X.K r to t) := by
  refine ⟨fun pins s σ H Q I h => ?_⟩
  refine wpAny_Call_method_late hbase hfew hline rfl (thn (ho.run pins s σ H _ I h) fun v s1 ⟨x, H1, J, rx, ⟨a, vs, ex, hn⟩, q1⟩ => ?_)
  subst ex
  obtain rfl : v = Value.ref a := rx
  obtain ⟨its, rv, ⟨o1, ho1, hc1, n1, hd1⟩, _⟩ := J.tuple hn.t
  have hdict : ∀ b, Value.ref a = .ref b → ∃ ob, s1.heap.get? b = some ob ∧ ob.dict = none := fun b eb => by
    cases eb
    rcases hn with ⟨ob, g1, g2⟩ | ⟨⟨ob, g1, g2⟩, _⟩
    · exact ⟨ob, (J.hok a _ g1).1, g2⟩
    · exact ⟨ob, J.kIn a ob g1, g2⟩
  refine ⟨"tuple", id, PySem.F.plainAttrs_tuple, slot, hty, ⟨o1, ho1, hc1⟩, hdict, ?_⟩
  have hA := ha.run pos pins s1 σ H1 _ J q1
  rw [hs] at hA ⊢
  refine Calls.callWith_builtin (by show (false || (backTo pos (starEach es X.env)).any (·.1)) = false; rw [hplain] <;> rfl) (Calls.evalArgs_plain ?_)
  exact thn hA fun us s2 ⟨xs, H2, J2, r2, q2⟩ => hm pins s2 σ H2 (.ref a) xs (.ref a) us Q J2 rfl r2 q2
theorem de_tidx {o : Expr} {apos : Pos} (ho : DE X ow B o ta) (he : DE X ow B e te)
    (hbase : attributeBase o "index" X.env (eval o X.env) = eval o X.env := by rfl)
    (hfew : ((backTo pos (starEach [e] X.env)).all (fun x => !x.1) && (backToKw pos (keywordEach [] X.env)).all (fun x => x.1.isSome) && decide ([e].length + ([] : List Keyword).length + (if ([] : List Keyword).isEmpty then 0 else 1) < 30)) = true := by rfl)
    (hline : (apos.endLine == pos.line) = true := by rfl) (hs : starEach [e] X.env = (false, eval e X.env) :: starEach [] X.env := by rfl) (hplain : (backTo pos (starEach [] X.env)).any (·.1) = false := by rfl) :
    DE X ow B (.Call (.Attribute o "index" apos) [e] [] pos) (fun Γ k => ta Γ fun x Γ1 => x.frz fun d => isTupD d = true ∧ te Γ1 fun y Γ2 => y.frz fun e => dTIdx d e fun ρ => k ρ Γ2) :=
  (pe_tm PySem.F.slot_tuple_index PySem.F.type_tuple_index mt_tidx ho (pa_cons he pa_nil hs) hbase hfew hline hs hplain).conv fun σ H Q ⟨Γ, F, w, S, k, q, hk⟩ =>
  ⟨Γ, F, w, S, _, q, fun x Γ1 F1 w1 H1 v A q1 e1 S1 r1 t1 => by
    obtain ⟨d, F1', q1', e1', S1', r1'⟩ := S1.frz r1 t1 q1
    obtain ⟨ht, q1'⟩ := q1'
    cases d with
    | tuple ds =>
      obtain ⟨l, vs, rfl, z1, z2⟩ := r1'.tup_invN
      refine ⟨⟨l, vs, rfl, z1.mono S1'.sub⟩, Γ1, F1', w1, S1', _, q1', fun y Γ2 F2 w2 H2 v2 A2 q2 e2 S2 r2 t2 => ?_⟩
      obtain ⟨d2, F2', q2', e2', S2', r2'⟩ := S2.frz r2 t2 q2
      cases d2 with
      | int i =>
        obtain ⟨ns, e3, hm, q3⟩ := q2'
        rw [go_ints e3] at z2
        rw [z2.ints_inv] at z1
        exact ⟨l, ns, i, rfl, by rw [r2'.int_inv], ((z1.mono (e2.trans e2')).mono S2'.sub).t, hm, hk _ _ _ _ _ _ _ q3 (((e1.trans e1').trans e2).trans e2') S2' ⟨.int _, rfl⟩ Tmp.nil⟩
      | _ => exact q2'.elim
    | _ => cases ht⟩
/-! ### d[k] = v -/
def rPutDk : TSet := fun o i v H Q => ∃ (a : Addr) (kvs : List (Key × V)) (k : Key), o = .ref a ∧ H a = some (.dK kvs) ∧ i = kV k ∧ kvs.length < sizeLine ∧ ((kvs.map (·.1)).Nodup → Q (upd H a (.dK (putK kvs k v))))
theorem put_dk (hu : X.A.units + 1 < cLine) : PSet X rPutDk := by
  intro pins s σ H o i v ov iv u Q I ro ri rv h
  obtain ⟨a, kvs, k, rfl, ha, rfl, hl, q⟩ := h
  obtain rfl : ov = Value.ref a := ro
  have hn : (kvs.map (·.1)).Nodup := by
    obtain ⟨_, _, vs, rel, _, _, _, _, _, _, _, _, hn⟩ := dk_of I.hok ha
    rw [kv_at rel]; exact hn
  exact d_setItem hu I (DPut.k ha hl) ri rv fun s' J => ⟨_, J, q hn⟩
theorem putK_old {κ α : Type} [DecidableEq κ] {kvs : List (κ × α)} (hn : (kvs.map (·.1)).Nodup) {j : Nat} {k : κ} {v0 v : α} (h : kvs[j]? = some (k, v0)) : (kvs.map fun kv => if kv.1 = k then (kv.1, v) else kv) = kvs.set j (k, v) := by
  induction kvs generalizing j with
  | nil => simp at h
  | cons p kvs ih =>
    rw [List.map_cons, List.nodup_cons] at hn
    cases j with
    | zero =>
      simp at h
      subst h
      have : kvs.map (fun kv => if kv.1 = k then (kv.1, v) else kv) = kvs := by
        conv => rhs; rw [← List.map_id kvs]
        refine List.map_congr_left fun x hx => ?_
        rw [if_neg (fun e => hn.1 (List.mem_map.mpr ⟨x, hx, e⟩))]
        rfl
      simp [this]
    | succ j =>
      have h' : kvs[j]? = some (k, v0) := by simpa using h
      have hm : k ∈ kvs.map (·.1) := List.mem_map.mpr ⟨(k, v0), List.mem_of_getElem? h', rfl⟩
      have hne : ¬ p.1 = k := fun e => hn.1 (e ▸ hm)
      simp [hne, ih hn.2 h']
theorem RepKs.set {K : PySem.W.Frag} {F : Hp} {kvs : List (Key × V)} {kds : List (D × D)} (r : RepKs K F kvs kds) : ∀ {i : Nat} {k : Key} {v v' : V} {kd d d' : D}, kvs[i]? = some (k, v) → kds[i]? = some (kd, d) → RepF K F v' d' → RepKs K F (kvs.set i (k, v')) (kds.set i (kd, d')) := by
  induction kds generalizing kvs with
  | nil => intro i k v v' kd d d' e1 e2; simp at e2
  | cons p kds ih =>
    intro i k v v' kd d d' e1 e2 rv
    cases r with
    | cons h1 h2 =>
      cases i with
      | zero =>
        simp at e1 e2
        obtain ⟨rfl, rfl⟩ := e1
        obtain ⟨rfl, rfl⟩ := e2
        exact .cons rv h2
      | succ i => exact .cons h1 (ih h2 (by simpa using e1) (by simpa using e2) rv)
theorem RepKs.snoc {K : PySem.W.Frag} {F : Hp} {kvs : List (Key × V)} {kds : List (D × D)} (r : RepKs K F kvs kds) {k : Key} {v : V} {d : D} (h : RepF K F v d) : RepKs K F (kvs ++ [(k, v)]) (kds ++ [(keyD k, d)]) := by
  induction kds generalizing kvs with
  | nil => cases r; exact .cons h .nil
  | cons p kds ih => cases r with
    | cons g1 g2 => exact .cons g1 (ih g2)
def keyP : D → Option Key
  | .int i => some (.inl i)
  | .str x => some (.inr x)
  | _ => none
theorem keyP_D {d : D} {k : Key} (h : keyP d = some k) : d = keyD k := by
  cases d <;> cases h <;> rfl
/-- the key e is there at j, or is new -/
def putD (kds : List (D × D)) (e d : D) (k : List (D × D) → Prop) : Prop := kds.length < 1000000 ∧ ((∃ (j : Nat) (d0 : D), kds[j]? = some (e, d0) ∧ k (kds.set j (e, d))) ∨ (e ∉ kds.map (·.1) ∧ k (kds ++ [(e, d)])))
def dPut (i : Nat) (te : DT) (ti : DB) : DS := fun D Γ => te Γ fun ρ Γ1 => ρ.frz fun d => match Γ1[i]? with
  | some (some _) => ti Γ1 fun e Γ2 => match Γ2[i]? with
    | some (some (.dct kds)) => (∃ k, keyP e = some k) ∧ putD kds e d fun kds' => D.nx (Γ2.set i (some (.dct kds')))
    | some (some (.dtt kds)) => isTupD e = true ∧ (∃ k, keyOf e = some k ∧ k.depth ≤ 8) ∧ putD kds e d fun kds' => D.nx (Γ2.set i (some (.dtt kds')))
    | _ => False
  | _ => False
theorem mem_keys {K : PySem.W.Frag} {F : Hp} {kvs : List (Key × V)} {kds : List (D × D)} (r : RepKs K F kvs kds) : kds.map (·.1) = kvs.map fun p => keyD p.1 := by
  induction kds generalizing kvs with
  | nil => cases r; rfl
  | cons p kds ih => cases r with
    | cons g1 g2 => simp [ih g2]
theorem set_or {X : Cx} {t u : TSet} (h : PSet X t) (g : PSet X u) : PSet X fun o i v H Q => t o i v H Q ∨ u o i v H Q := fun pins s σ H o i v ov iv w Q I r1 r2 r3 q => q.elim (h pins s σ H o i v ov iv w Q I r1 r2 r3) (g pins s σ H o i v ov iv w Q I r1 r2 r3)
theorem ds_put (hr : Room k X.A) {i : Nat} {x : Str} {p1 : Pos} (hi : PE X (.Name x px) (tVar i)) (he : DE X ow B e te) (hb : BE X ow B b tb)
    (ha : ∀ v, assign (.Subscript (.Name x px) b p1) X.env v = (do
      let ov ← holding [v] (eval (.Name x px) X.env)
      let iv ← holding [v, ov] (eval b X.env)
      standAt p1
      holding [v, ov, iv] (setItem ov iv v)
      release [v, ov, iv] []) := by intro _; rfl)
    (hs : swapsWithSole [.Subscript (.Name x px) b p1] e pos.line X.env = pure false := by rfl) (hw : swappedStores [.Subscript (.Name x px) b p1] e X.env = pure none := by rfl)
    (h1 : (assignEach [.Subscript (.Name x px) b p1] X.env).map (·.2) = [assign (.Subscript (.Name x px) b p1) X.env] := by rfl) :
    SE X ow B (.Assign [.Subscript (.Name x px) b p1] e pos) (dPut i te tb) := (ps_asg he (pg_sub hi hb (set_or (put_dk (by have := hr.units; omega)) (put_dt hr.units)) ha) hs hw h1).conv fun E σ H ⟨Γ, F, w, S, D, q, ok⟩ =>
  ⟨Γ, F, w, S, _, q, fun ρ Γ1 F1 w1 H1 v1 A1 q1 e1 S1 r1 t1 => by
    obtain ⟨d, F1', q1', e1', S1', r1'⟩ := S1.frz r1 t1 q1
    split at q1'
    · rename_i ρ0 e0
      obtain ⟨v, A, h1, _, _⟩ := S1'.slot i _ e0
      refine ⟨v, h1, Γ1, F1', w1, S1', _, q1', fun e2 Γ2 F2 w2 H2 v2 q2 ee S2 r2 => ?_⟩
      have e12 := (e1.trans e1').trans ee
      split at q2
      · rename_i kds e3
        obtain ⟨⟨k, ek⟩, q2⟩ := q2
        obtain ⟨v', A', h1', r', o'⟩ := S2.slot i _ e3
        rw [h1] at h1'; cases h1'
        obtain ⟨a, kvs, rfl, y1, y2, rfl⟩ := id r'
        have ed := keyP_D ek
        rw [ed] at r2 q2
        have rd := r1'.mono ee
        obtain ⟨lt, q2⟩ := q2
        refine .inl ⟨a, kvs, k, rfl, y1, r2.keyD, by rw [y2.length]; exact Nat.lt_trans lt (by rw [sizeLine_eq]; decide), fun hn => ?_⟩
        rcases q2 with ⟨j, d0, hj, q3⟩ | ⟨hno, q3⟩
        · obtain ⟨k', v0, g1, g2, _⟩ := y2.get hj
          cases keyD_inj g2
          have hany : (kvs.any fun kv => decide (kv.1 = k)) = true := List.any_eq_true.mpr ⟨_, List.mem_of_getElem? g1, by simp⟩
          have ep : putK kvs k v1 = kvs.set j (k, v1) := by
            unfold putK
            rw [if_pos hany, putK_old hn g1]
          rw [ep]
          have S3 := S2.mut (ρ' := .dct (kds.set j (keyD k, d))) (o := .dK (kvs.set j (k, v1))) e3 h1 r' ⟨a, _, rfl, upd_same, y2.set g1 hj rd, rfl⟩ (by simp) o'
          exact ok.nx _ _ _ _ _ q3 e12 S3
        · have hany : ¬ (kvs.any fun kv => decide (kv.1 = k)) = true := fun z => by
            obtain ⟨p, hp, e⟩ := List.any_eq_true.mp z
            refine hno ?_
            rw [mem_keys y2]
            exact List.mem_map.mpr ⟨p, hp, by rw [of_decide_eq_true e]⟩
          have ep : putK kvs k v1 = kvs ++ [(k, v1)] := by
            unfold putK
            rw [if_neg hany]
          rw [ep]
          have S3 := S2.mut (ρ' := .dct (kds ++ [(keyD k, d)])) (o := .dK (kvs ++ [(k, v1)])) e3 h1 r' ⟨a, _, rfl, upd_same, y2.snoc rd, rfl⟩ (by simp) o'
          exact ok.nx _ _ _ _ _ q3 e12 S3
      · rename_i kds e3
        obtain ⟨ht, ⟨k, ek, dk⟩, lt, q2⟩ := q2
        obtain ⟨v', A', h1', r', o'⟩ := S2.slot i _ e3
        rw [h1] at h1'; cases h1'
        obtain ⟨a, kvs, rfl, y1, y2, rfl⟩ := id r'
        have rd := r1'.mono ee
        cases e2 with
        | tuple es =>
          have rk := r2.tupF
          obtain ⟨c, _, rfl, _⟩ := rk.tup_inv
          refine .inr ⟨a, kvs, kds, es, k, c, rfl, y1, y2.mono S2.sub, rfl, rk.mono S2.sub, ek, dk, ?_⟩
          rcases q2 with ⟨j, d0, hj, q3⟩ | ⟨hno, q3⟩
          · obtain ⟨k', q', v0, g1, g2, g3, g4, _⟩ := y2.get hj
            rw [ek] at g3
            cases g3
            have S3 := S2.mut (ρ' := .dtt (kds.set j (.tuple es, d))) (o := DkO a (kvs.set j (k, q', v1))) e3 h1 r' ⟨a, _, rfl, upd_same, y2.set g1 hj rd, rfl⟩ (by simp) o'
            exact .inl ⟨j, q', v0, g1, ok.nx _ _ _ _ _ q3 e12 S3⟩
          · have S3 := S2.mut (ρ' := .dtt (kds ++ [(.tuple es, d)])) (o := DkO a (kvs ++ [(k, c, v1)])) e3 h1 r' ⟨a, _, rfl, upd_same, y2.snoc rk ek dk rd, rfl⟩ (by simp) o'
            exact .inr ⟨hno, by rw [y2.length]; exact Nat.lt_trans lt (by rw [sizeLine_eq]; decide), ok.nx _ _ _ _ _ q3 e12 S3⟩
        | _ => cases ht
      · exact q2.elim
    · exact q1'.elim⟩
/-! ### x in d -/
def memP (neg : Bool) (kds : List (D × D)) (e : D) (k : Bool → Prop) : Prop := ∃ b : Bool, (b = true ↔ e ∈ kds.map (·.1)) ∧ k (neg ^^ b)
def rInDk (neg : Bool) : R2 := fun x y H Q => ∃ (a : Addr) (kvs : List (Key × V)) (k : Key), y = .ref a ∧ x = kV k ∧ Rd H a (.dK kvs) ∧ ∀ b : Bool, (b = true ↔ k ∈ kvs.map (·.1)) → Q (.bl (neg ^^ b)) H
theorem valV_some {kvs : List (Key × V)} {k : Key} : (valV kvs k).isSome = true ↔ k ∈ kvs.map (·.1) := by
  unfold valV
  rw [Option.isSome_map, List.find?_isSome]
  constructor
  · rintro ⟨p, hp, e⟩; exact List.mem_map.mpr ⟨p, hp, of_decide_eq_true e⟩
  · intro h
    obtain ⟨p, hp, e⟩ := List.mem_map.mp h
    exact ⟨p, hp, decide_eq_true e⟩
theorem in_dk (hu : X.A.units + 1 < cLine) : OpR X (compareOp .In) (rInDk false) := by
  intro pins s σ H x y v u Q I rx ry h
  obtain ⟨a, kvs, k, rfl, rfl, ha, h⟩ := h
  obtain rfl : u = Value.ref a := ry
  exact d_in hu I (.inl ⟨kvs, k, ha, rfl, rfl⟩) rx fun s' J => ⟨.bl _, H, J, rfl, by simpa using h _ valV_some⟩
theorem notIn_dk (hu : X.A.units + 1 < cLine) : OpR X (compareOp .NotIn) (rInDk true) := by
  intro pins s σ H x y v u Q I rx ry h
  obtain ⟨a, kvs, k, rfl, rfl, ha, h⟩ := h
  obtain rfl : u = Value.ref a := ry
  exact d_notIn hu I (.inl ⟨kvs, k, ha, rfl, rfl⟩) rx fun s' J => ⟨.bl _, H, J, rfl, by simpa using h _ valV_some⟩
def rInDa (K : PySem.W.Frag) (neg : Bool) : R2 := fun x y H Q => rInDk neg x y H Q ∨ rInDt K neg x y H Q
theorem op_inDa (hr : Room k X.A) : OpR X (compareOp .In) (rInDa X.K false) := (in_dk (by have := hr.units; omega)).or (in_dt hr.units)
theorem op_notInDa (hr : Room k X.A) : OpR X (compareOp .NotIn) (rInDa X.K true) := (notIn_dk (by have := hr.units; omega)).or (notIn_dt hr.units)
theorem keyD_mem {K : PySem.W.Frag} {F : Hp} {kvs : List (Key × V)} {kds : List (D × D)} (r : RepKs K F kvs kds) {k : Key} : keyD k ∈ kds.map (·.1) ↔ k ∈ kvs.map (·.1) := by
  rw [mem_keys r]
  constructor
  · intro h
    obtain ⟨p, hp, e⟩ := List.mem_map.mp h
    exact List.mem_map.mpr ⟨p, hp, keyD_inj e⟩
  · intro h
    obtain ⟨p, hp, e⟩ := List.mem_map.mp h
    exact List.mem_map.mpr ⟨p, hp, by rw [e]⟩
/-- .. of a dict of one's own -/
def dInD (neg : Bool) (i : Nat) (ta : DT) : DT := fun Γ k => ta Γ fun x Γ1 => x.frz fun e => match Γ1[i]? with
  | some (some (.dct kds)) => (∃ q, keyP e = some q) ∧ memP neg kds e fun b => k (.fro (.bool b)) Γ1
  | some (some (.dtt kds)) => isTupD e = true ∧ (∃ q, keyOf e = some q ∧ q.depth ≤ 8) ∧ memP neg kds e fun b => k (.fro (.bool b)) Γ1
  | _ => False
theorem inD_conv {neg : Bool} {i : Nat} {σ : L2.St} {H : Hp} {Q : VK} (h : tD X.K ow B (dInD neg i ta) σ H Q) : tOp (rInDa X.K neg) (tD X.K ow B ta) (tVar i) σ H Q := by
  obtain ⟨Γ, F, w, S, k, q, hk⟩ := h
  refine ⟨Γ, F, w, S, _, q, fun x Γ1 F1 w1 H1 v A q1 e1 S1 r1 t1 => ?_⟩
  obtain ⟨e, F1', q1', e1', S1', r1'⟩ := S1.frz r1 t1 q1
  split at q1'
  · rename_i kds e3
    obtain ⟨⟨q, eq⟩, b, hb, q2⟩ := q1'
    obtain ⟨v', A', h1', r', _⟩ := S1'.slot i _ e3
    obtain ⟨a, kvs, rfl, y1, y2, rfl⟩ := r'
    refine ⟨_, h1', .inl ⟨a, kvs, q, rfl, keyD_kV (by rw [← keyP_D eq]; exact r1'), .of y1, fun b' hb' => ?_⟩⟩
    rw [keyP_D eq, keyD_mem y2] at hb
    rw [bool_same hb' hb]
    exact hk _ _ _ _ _ _ _ q2 (e1.trans e1') S1' ⟨.bl _, rfl⟩ Tmp.nil
  · rename_i kds e3
    obtain ⟨ht, ⟨q, eq, dq⟩, b, hb, q2⟩ := q1'
    obtain ⟨v', A', h1', r', _⟩ := S1'.slot i _ e3
    obtain ⟨a, kvs, rfl, y1, y2, rfl⟩ := r'
    cases e with
    | tuple es => exact ⟨_, h1', .inr ⟨a, kvs, kds, es, q, b, rfl, .of y1, y2.mono S1'.sub, r1'.mono S1'.sub, eq, dq, hb, hk _ _ _ _ _ _ _ q2 (e1.trans e1') S1' ⟨.bl _, rfl⟩ Tmp.nil⟩⟩
    | _ => cases ht
  · exact q1'.elim
theorem de_inD (hr : Room k X.A) {i : Nat} {x : Str} (ha : DE X ow B a ta) (hb : PE X (.Name x px) (tVar i)) (hm : behindInMarks .In (.Name x px) = false := by first | exact nomark _ | rfl) : DE X ow B (.Compare a [.In] [.Name x px] pos) (dInD false i ta) := (pe_cmpR (op_inDa hr) ha hb hm).conv fun _ _ _ h => inD_conv h
theorem de_ninD (hr : Room k X.A) {i : Nat} {x : Str} (ha : DE X ow B a ta) (hb : PE X (.Name x px) (tVar i)) (hm : behindInMarks .NotIn (.Name x px) = false := by first | exact nomark _ | rfl) : DE X ow B (.Compare a [.NotIn] [.Name x px] pos) (dInD true i ta) := (pe_cmpR (op_notInDa hr) ha hb hm).conv fun _ _ _ h => inD_conv h
theorem dt_inD (hr : Room k X.A) {i : Nat} {x : Str} (ha : DE X ow B a ta) (hb : PE X (.Name x px) (tVar i)) (hm : behindInMarks .In (.Name x px) = false := by first | exact nomark _ | rfl) : TTe X ow B (.Compare a [.In] [.Name x px] pos) (dTst (dInD false i ta)) := (pt_cmpR (op_inDa hr) ha hb hm).conv fun σ H Q h => by
  have z := tst_conv h
  exact inD_conv z
theorem dt_ninD (hr : Room k X.A) {i : Nat} {x : Str} (ha : DE X ow B a ta) (hb : PE X (.Name x px) (tVar i)) (hm : behindInMarks .NotIn (.Name x px) = false := by first | exact nomark _ | rfl) : TTe X ow B (.Compare a [.NotIn] [.Name x px] pos) (dTst (dInD true i ta)) := (pt_cmpR (op_notInDa hr) ha hb hm).conv fun σ H Q h => by
  have z := tst_conv h
  exact inD_conv z
end
end Dn
set_option Elab.async false
set_option linter.all false
set_option maxRecDepth 100000
set_option maxHeartbeats 4000000
/-! # Dn: rows by index, comprehensions without ifs, sorted ints, slices -/
namespace Dn
open PySem PySem.Spec PyProof.Rows L2
theorem ixN_nat {n : Nat} {i : Int} {j : Nat} (h : i = (j : Int)) (hj : j < n) : ixN n i = some j := by
  subst h
  unfold ixN
  rw [if_pos (by omega), if_pos (by omega)]
  rfl
theorem rngD_nat (m : Nat) : rngD 0 1 ((m : Nat) : Int).toNat = (List.range m).map fun i => .int ((i : Nat) : Int) := by
  unfold rngD
  rw [Int.toNat_natCast]
  refine List.map_congr_left fun i _ => ?_
  congr 1
  omega
theorem rng_len {g : Nat → D} {n : Nat} : ((List.range n).map g).length = n := by simp
theorem rng_get {α : Type} {g : Nat → α} {n i : Nat} (h : i < n) : ((List.range n).map g)[i]? = some (g i) := by simp [h]
theorem rng_at {α : Type} {g : Nat → α} {n i : Nat} {j : Int} (hj : j = (i : Int)) (h : i < n) : atI ((List.range n).map g) j = some (g i) := by
  unfold atI
  rw [ixN_nat hj (by simpa using h)]
  exact rng_get h
theorem map_at {α β : Type} {xs : List α} {g : α → β} {i : Nat} {j : Int} {x : α} (hj : j = (i : Int)) (h : xs[i]? = some x) : atI (xs.map g) j = some (g x) := by
  unfold atI
  rw [ixN_nat hj (by rw [List.length_map]; exact getElem?_len h)]
  show (xs.map g)[i]? = _
  rw [List.getElem?_map, h]; rfl
theorem rng_en {g : Nat → D} {n i : Nat} {d : D} (h : (enumD ((List.range n).map g))[i]? = some d) : i < n ∧ d = .tuple [.int (i : Nat), g i] := by
  have hi : i < n := by have := getElem?_len h; rwa [enumD_len, rng_len] at this
  refine ⟨hi, ?_⟩
  unfold enumD at h
  rw [List.getElem?_mapIdx, rng_get hi] at h
  exact (Option.some.inj h).symm
theorem rng_snoc {α : Type} {g : Nat → α} {i : Nat} : (List.range (i + 1)).map g = (List.range i).map g ++ [g i] := by
  rw [List.range_succ, List.map_append]; rfl
theorem rng_mem {n i : Nat} (h : i ∈ List.range n) : i < n := List.mem_range.mp h
theorem map_get {α β : Type} {g : α → β} {xs : List α} {i : Nat} {d : β} (h : (xs.map g)[i]? = some d) : ∃ x, xs[i]? = some x ∧ d = g x := by
  rw [List.getElem?_map] at h
  obtain ⟨x, h1, h2⟩ := Option.map_eq_some_iff.mp h
  exact ⟨x, h1, h2.symm⟩
theorem rng_mget {α : Type} {g : Nat → α} {n i : Nat} {d : α} (h : ((List.range n).map g)[i]? = some d) : i < n ∧ d = g i := by
  have hi : i < n := by have := getElem?_len h; simpa using this
  rw [rng_get hi] at h
  exact ⟨hi, (Option.some.inj h).symm⟩
/-- a comprehension without ifs -/
theorem lc_all {α : Type} {items : List D} {Γ1 : Ge} {g : DG} {tt : DTT} {te : DT} {vs : List Nat} {k : Rv → Ge → Prop} (xs : List α) (enc f : α → D) (hx : items = xs.map enc) (hl : xs.length ≤ 1000000)
    (turn : ∀ x, x ∈ xs → ∀ (yes : D → Ge → Prop) (no : Ge → Prop), (∀ Γ4, wip Γ4 vs = wip Γ1 vs → yes (f x) Γ4) → g (.fro (enc x)) (wip Γ1 vs) fun Γ2 => tt Γ2 fun b Γ3 => bP b (te Γ3 fun ρ Γ4 => ρ.frz fun e => yes e Γ4) (no Γ3))
    (fin : k (.lst (xs.map f)) (rst (wip Γ1 vs) Γ1 vs)) : LcGoal items none Γ1 g tt te vs k :=
  lc_map xs enc (fun x => some (f x)) hx hl (fun x hx yes no h => turn x hx yes no h) (by
    have : xs.filterMap (fun x => some (f x)) = xs.map f := by
      show xs.filterMap (some ∘ f) = _
      rw [List.filterMap_eq_map]
    rw [this]; exact fin)
/-- .. with one if -/
theorem lc_if {α : Type} {items : List D} {Γ1 : Ge} {g : DG} {tt : DTT} {te : DT} {vs : List Nat} {k : Rv → Ge → Prop} (xs : List α) (enc f : α → D) (c : α → Bool) (hx : items = xs.map enc) (hl : xs.length ≤ 1000000)
    (turn : ∀ x, x ∈ xs → ∀ (yes : D → Ge → Prop) (no : Ge → Prop), (c x = true → ∀ Γ4, wip Γ4 vs = wip Γ1 vs → yes (f x) Γ4) → (c x = false → ∀ Γ4, wip Γ4 vs = wip Γ1 vs → no Γ4) → g (.fro (enc x)) (wip Γ1 vs) fun Γ2 => tt Γ2 fun b Γ3 => bP b (te Γ3 fun ρ Γ4 => ρ.frz fun e => yes e Γ4) (no Γ3))
    (fin : k (.lst ((xs.filter c).map f)) (rst (wip Γ1 vs) Γ1 vs)) : LcGoal items none Γ1 g tt te vs k :=
  lc_map xs enc (fun x => if c x = true then some (f x) else none) hx hl (fun x hx yes no h => turn x hx yes no (fun z => by simpa [z] using h) fun z => by simpa [z] using h) (by
    have : xs.filterMap (fun x => if c x = true then some (f x) else none) = (xs.filter c).map f := by
      clear fin turn hl hx
      induction xs with
      | nil => rfl
      | cons x xs ih => cases q : c x <;> simp [q, ih]
    rw [this]; exact fin)
/-! sorted -/
def srtI (ns : List Int) : List Int := ns.mergeSort fun a b => decide (a ≤ b)
theorem sortD_ints (ns : List Int) : sortD (ns.map .int) = (srtI ns).map .int := by
  unfold sortD srtI
  refine (PySem.W.sort_maps PyData.int fun a _ b _ => ?_).symm
  have := congrFun (congrFun (PySem.W.dataLe_int (β := Int) id) a) b
  exact this.symm
theorem alike_int (a b : Int) : PySem.W.alike (.int a) (.int b) = true := by simp [PySem.W.alike]
theorem srt_ints (ns : List Int) : SrtOk (ns.map .int) where
  al := .of fun a b => alike_int a b
  so := PySem.W.Sortable.others fun a => ⟨by simp, by simp⟩
  dp := fun d hd => by
    obtain ⟨i, _, rfl⟩ := List.mem_map.mp hd
    simp [PyData.depth]
theorem srtI_perm (ns : List Int) : (srtI ns).Perm ns := List.mergeSort_perm _ _
theorem srtI_len (ns : List Int) : (srtI ns).length = ns.length := (srtI_perm ns).length_eq
theorem srtI_mem {ns : List Int} {a : Int} : a ∈ srtI ns ↔ a ∈ ns := (srtI_perm ns).mem_iff
theorem srtI_le (ns : List Int) : (srtI ns).Pairwise (· ≤ ·) := by
  have := PySem.W.sort_pairwise (le := fun a b : Int => decide (a ≤ b)) ⟨fun a b c h1 h2 => by simp at *; omega, fun a b => by simp; omega⟩ ns
  exact this.imp fun h => by simpa using h
/-! slices -/
theorem cut_to {α : Type} {xs : List D} {k : Nat} (h : k ≤ xs.length) : cutD xs none (some (k : Int)) = xs.take k := by
  unfold cutD
  rw [HT.sIx_none, HT.sIx_nat, List.drop_zero, Nat.sub_zero, Nat.min_eq_left h]
theorem cut_from {xs : List D} {k : Nat} (h : k ≤ xs.length) : cutD xs (some (k : Int)) none = xs.drop k := by
  unfold cutD
  rw [HT.sIx_none, HT.sIx_nat, Nat.min_eq_left h]
  exact List.take_of_length_le (by simp)
theorem cut_to' {xs : List D} {k : Nat} {i : Int} (e : i = (k : Int)) (h : k ≤ xs.length) : cutD xs none (some i) = xs.take k := by subst e; exact cut_to (α := Nat) h
theorem cut_from' {xs : List D} {k : Nat} {i : Int} (e : i = (k : Int)) (h : k ≤ xs.length) : cutD xs (some i) none = xs.drop k := by subst e; exact cut_from h
/-! a global tuple without a dict -/
def tupNB (K : PySem.W.Frag) (x : Str) (vs : List He.Dv) : Bool := (match K.lookup (He.ga K x) with | some o => o.dict.isNone | none => false) && He.tupB K x vs
theorem tupNB_ok {K : PySem.W.Frag} {x : Str} {vs : List He.Dv} (h : tupNB K x vs = true) (H : Hp) : SqN K H (He.ga K x) (vs.map (He.Dv.v K)) := by
  unfold tupNB at h
  obtain ⟨h1, h2⟩ := Bool.and_eq_true_iff.mp h
  refine .inr ⟨?_, He.tupB_ok h2 H⟩
  cases q : K.lookup (He.ga K x) with
  | none => rw [q] at h1; cases h1
  | some o =>
    rw [q] at h1
    exact ⟨o, rfl, by simpa using h1⟩
end Dn
set_option Elab.async false
set_option linter.all false
set_option maxRecDepth 100000
set_option maxHeartbeats 4000000
/-! # Dn: dict displays with plain keys -/
namespace Dn
open PySem PySem.Spec PyProof.Rows L2
theorem hu66 {A : Around} {k : Nat} (hr : Room k A) : A.units + 65 < cLine := by have := hr.un; omega
section
variable {X : Cx} {ow : Ow} {B : Bs} {K : PySem.W.Frag} {F F' H : Hp} {σ : L2.St} {w : Addr → Nat} {Γ : Ge}
def dPairs : List (DT × DT) → Ge → (List (D × D) → Ge → Prop) → Prop
  | [], Γ, k => k [] Γ
  | t :: r, Γ, k => t.1 Γ fun ρ Γ1 => ρ.frz fun e => t.2 Γ1 fun ρ' Γ2 => ρ'.frz fun d => dPairs r Γ2 fun ps Γ3 => k ((e, d) :: ps) Γ3
abbrev xPs (K : PySem.W.Frag) (ow : Ow) (ts : List (DT × DT)) : List (TE × TE) := ts.map fun t => (xD K ow t.1, xD K ow t.2)
abbrev DPs (X : Cx) (ow : Ow) (pos : Pos) (keys : List (Option Expr)) (values : List Expr) (ts : List (DT × DT)) : Prop := PPs X pos keys values (xPs X.K ow ts)
theorem dps_nil {pos : Pos} : DPs X ow pos [] [] [] := pps_nil
theorem dps_cons {pos : Pos} {a b : Expr} {ks : List (Option Expr)} {vs : List Expr} {tk tv : DT} {ts : List (DT × DT)} (hk : ∀ B, DE X ow B a tk) (hv : ∀ B, DE X ow B b tv) (hr : DPs X ow pos ks vs ts) : DPs X ow pos (some a :: ks) (b :: vs) ((tk, tv) :: ts) :=
  pps_cons (PE.ex hk) (PE.ex hv) hr
inductive RepPs (K : PySem.W.Frag) (F : Hp) : List (V × V) → List (D × D) → Prop
  | nil : RepPs K F [] []
  | cons {x y : V} {e d : D} {ps : List (V × V)} {ds : List (D × D)} : RepF K F x e → RepF K F y d → RepPs K F ps ds → RepPs K F ((x, y) :: ps) ((e, d) :: ds)
theorem pairs_conv : ∀ {ts : List (DT × DT)} {Γ : Ge} {F : Hp} {w : Addr → Nat} {H : Hp} {k : List (D × D) → Ge → Prop} {Q : List (V × V) → Hp → Prop}, Sim K ow B Γ F w σ H → dPairs ts Γ k →
    (∀ ps ds Γ' F' w' H', k ds Γ' → Same F F' → Sim K ow B Γ' F' w' σ H' → RepPs K F' ps ds → Q ps H') → tPairs (xPs K ow ts) σ H Q := by
  intro ts
  induction ts with
  | nil => intro Γ F w H k Q S h a; exact a [] [] Γ F w H h (Same.refl F) S .nil
  | cons t r ih =>
    intro Γ F w H k Q S h a
    refine ⟨B, Γ, F, w, S, _, h, fun ρ Γ1 F1 w1 H1 v A q e1 S1 r1 t1 => ?_⟩
    obtain ⟨e, F1', q', e1', S1', r1'⟩ := S1.frz r1 t1 q
    refine ⟨B, Γ1, F1', w1, S1', _, q', fun ρ2 Γ2 F2 w2 H2 v2 A2 q2 e2 S2 r2 t2 => ?_⟩
    obtain ⟨d, F2', q2', e2', S2', r2'⟩ := S2.frz r2 t2 q2
    refine ih S2' q2' fun ps ds Γ3 F3 w3 H3 q3 e3 S3 r3 => ?_
    exact a _ _ Γ3 F3 w3 H3 q3 ((((e1.trans e1').trans e2).trans e2').trans e3) S3 (.cons (r1'.mono ((e2.trans e2').trans e3)) (r2'.mono e3) r3)
def dDisp (ts : List (DT × DT)) : DT := fun Γ k => dPairs ts Γ fun ds Γ1 => (∃ ks : List Key, ds.map (·.1) = ks.map keyD ∧ ks.Nodup ∧ ks.length ≤ 15) ∧ k (.dct ds) Γ1
theorem RepPs.keys {ps : List (V × V)} {ds : List (D × D)} (r : RepPs K F ps ds) : ∀ {ks : List Key}, ds.map (·.1) = ks.map keyD → ∃ kvs : List (Key × V), ps = kvs.map (fun kv => (kV kv.1, kv.2)) ∧ RepKs K F kvs ds ∧ kvs.map (·.1) = ks := by
  induction r with
  | nil => intro ks h; cases ks with
    | nil => exact ⟨[], rfl, .nil, rfl⟩
    | cons => cases h
  | @cons x y e d ps ds hx hy _ ih => intro ks h; cases ks with
    | nil => cases h
    | cons k ks =>
      rw [List.map_cons, List.map_cons] at h
      obtain ⟨h1, h2⟩ := List.cons.inj h
      simp only at h1
      subst h1
      obtain ⟨kvs, rfl, r1, rfl⟩ := ih h2
      have := keyD_kV hx
      subst this
      exact ⟨(k, y) :: kvs, rfl, .cons hy r1, rfl⟩
theorem valV_none {α : Type} [DecidableEq α] {kvs : List (α × V)} {k : α} (h : k ∉ kvs.map (·.1)) : valV kvs k = none := by
  induction kvs with
  | nil => rfl
  | cons p r ih =>
    rw [List.map_cons, List.mem_cons, not_or] at h
    rw [valV_neg (fun e => h.1 e.symm)]
    exact ih h.2
theorem merge_nodup : ∀ (kvs acc : List (Key × V)), ((acc ++ kvs).map (·.1)).Nodup → mergeK acc kvs = acc ++ kvs := by
  intro kvs
  induction kvs with
  | nil => intro acc _; exact (List.append_nil _).symm
  | cons p r ih =>
    intro acc h
    have hn : valV acc p.1 = none := valV_none fun hm => by
      rw [List.map_append, List.nodup_append] at h
      exact h.2.2 _ hm _ (by simp) rfl
    show mergeK (putK acc p.1 p.2) r = _
    rw [putK_new p.2 hn, ih _ (by rw [List.append_assoc]; exact h), List.append_assoc]
    rfl
theorem disp_conv {ts : List (DT × DT)} {Q : VK} (h : tD K ow B (dDisp ts) σ H Q) : tDisp (xPs K ow ts) σ H Q := by
  obtain ⟨Γ, F, w, S, k, q, hk⟩ := h
  intro p hp
  obtain ⟨fL, zL⟩ := S.fresh hp
  have S2 : Sim K ow B Γ F (wset w p 0) σ (upd H p (.dK [])) := S.grow (same_upd hp) fun b hb => wset_ne fun e => hb (by rw [e]; exact hp)
  refine pairs_conv S2.enter q fun ps ds Γ' F' w' H' ⟨⟨ks, ek, nk, lk⟩, q'⟩ e' T r => ?_
  have hL := S2.stood T upd_same wset_same (fun _ z => by cases z)
  refine ⟨hL, ?_⟩
  obtain ⟨kvs, e1, r1, e2⟩ := r.keys ek
  refine ⟨kvs, e1, by rw [← e2, List.length_map] at lk; exact lk, ?_⟩
  rw [merge_nodup kvs [] (by rw [List.nil_append, e2]; exact nk), List.nil_append]
  have S8 := S2.unowned T upd_same wset_same (fun _ z => by cases z)
  have f8 : F' p = none := Sim.nofrz T upd_same fL
  have S9 := S8.upd0 (o := .dK kvs) wset_same f8 zL
  exact hk (.dct ds) Γ' F' _ _ (.ref p) [p] q' e' S9 ⟨p, kvs, rfl, upd_same, r1, rfl⟩ fun b hb => by rw [List.mem_singleton.mp hb]; exact ⟨wset_same, f8, zL⟩
theorem de_disp {pos : Pos} {keys : List (Option Expr)} {values : List Expr} {ts : List (DT × DT)} (h : DPs X ow pos keys values ts) (hall : keys.all (·.isSome) = true := by rfl) (hl : keys.length = values.length := by rfl) (h0 : keys ≠ [] := by exact List.cons_ne_nil _ _)
    (h15 : keys.length ≤ 15 := by decide) : DE X ow B (.Dict keys values pos) (dDisp ts) := (pe_disp h hall hl h0 h15).conv fun _ _ _ h => disp_conv h
end
end Dn
set_option Elab.async false
set_option linter.all false
set_option maxRecDepth 100000
set_option maxHeartbeats 2000000
namespace K73
open PySem PySem.Spec PyProof.Rows L2 Dn Zw

def top (i : Nat) : Stmt := PySem.Challenge.pw_allbranches_k73_planes_and_paulis.main.body.getD i (.Pass ⟨0, 0, 0, 0⟩)
abbrev t4 (x : Z4) : D := .tuple [.int x.a, .int x.b, .int x.c, .int x.d]
abbrev t5 (x : Z4) (p : Int) : D := .tuple [.int x.a, .int x.b, .int x.c, .int x.d, .int p]
abbrev l4 (x : Z4) : D := .list [.int x.a, .int x.b, .int x.c, .int x.d]
theorem eq_t4 (x y : Z4) : PyData.eqv (t4 x) (t4 y) = decide (x = y) := by
  obtain ⟨a, b, c, d⟩ := x
  obtain ⟨a', b', c', d'⟩ := y
  simp only [PyData.eqv, PyData.eqvAll, Bool.and_true, Z4.mk.injEq]
  rw [Bool.eq_iff_iff]
  simp
section
variable {P : Program} {w : World} {K : PySem.W.Frag} {mg : Str → Option Value} {base : Heap} {T : Addr → Prop} {f : Addr} {fd : FuncData} {c Pt : Addr} {k : Nat}
abbrev s_by_root : Stmt := top 3
def sp_by_root : DSp := fun ρs k => ∃ x, ρs = [.fro (t4 x)] ∧ k (.fro (t4 (rt x))) ρs
theorem sc_by_root : FnScope ["number", "first", "second", "third", "fourth"] ["number"] (defScope s_by_root) := ⟨rfl, rfl, rfl, by decide +kernel, rfl, by decide +kernel, by decide +kernel⟩
theorem ok_by_root (F : Fun K "by_root" "by_root" s_by_root f fd) : FnOk P w K mg base CX0 (k + 1) f fd ["number"] (spD K T sp_by_root) := by
  refine F.okD T sc_by_root [] (fun ρs k ⟨x, e, _⟩ => by subst e; exact ⟨rfl, rfl⟩) fun cdv A outer s H E B ρs k' hcd hr ⟨x, e, h⟩ hB => ⟨_, 
(ds_cons (ds_asg (nv 0) (dg_row rfl (dgs_cons (dg_name sc_by_root.nd (i := 1) rfl (.inl rfl)) (dgs_cons (dg_name sc_by_root.nd (i := 2) rfl (.inl rfl)) (dgs_cons (dg_name sc_by_root.nd (i := 3) rfl (.inl rfl)) (dgs_cons (dg_name sc_by_root.nd (i := 4) rfl (.inl rfl)) dgs_nil))))))
 (ds_one (ds_ret (PE.fr (de_tup (da_cons (de_sub (nv 2) (nb 4)) (da_cons (de_add (nv 1) (nb 3)) (da_cons (de_add (nv 2) (nb 4)) (da_cons (de_sub (nv 3) (nb 1)) da_nil))))))))), ?_⟩
  subst e
  repeat (first | refine ⟨_, rfl, rfl, ?_⟩ | refine ⟨Nat.le_of_ble_eq_true rfl, ?_⟩)
  exact h
abbrev s_exact : Stmt := top 4
def sp_exact : DSp := fun ρs k => ∃ (x : Z4) (p : Int), ρs = [.fro (.int x.a), .fro (.int x.b), .fro (.int x.c), .fro (.int x.d), .fro (.int p)] ∧ ∀ y q, IsEx x p y q → k (.fro (t5 y q)) ρs
abbrev N_exact : List Str := ["first", "second", "third", "fourth", "power", "told", "part"]
theorem sc_exact : FnScope N_exact ["first", "second", "third", "fourth", "power"] (defScope s_exact) := ⟨rfl, rfl, rfl, by decide +kernel, rfl, by decide +kernel, by decide +kernel⟩
theorem ok_exact (F : Fun K "exact" "exact" s_exact f fd) (hT : T Pt) (TB : GxR.TabB base mg c Pt) (hc : fd.code = .ref c) (c_by_root : Cal P w K mg base T k "by_root" ["number"] sp_by_root) (m_all : mg "all" = none) (m_tuple : mg "tuple" = none) (g_ZERO : Glb K mg "ZERO" (t5 zero 0)) :
    FnOk P w K mg base CX0 (k + 1) f fd ["first", "second", "third", "fourth", "power"] (spD K T sp_exact) := by
  refine F.okD T sc_exact [] (fun ρs k ⟨x, p, e, _⟩ => by subst e; exact ⟨rfl, rfl⟩) fun cdv A outer s H E B ρs k' hcd0 hr ⟨x, p, e, h⟩ hB => ?_
  have hcd : (cxOf CX0 P w K mg base N_exact "exact" (defScope s_exact) f cdv A outer s H E).nox.env.code = .ref c := hcd0.symm.trans hc
  refine ⟨_, 
(ds_cons (ds_set (i := 5) sc_exact.nd rfl (.inl rfl) (PE.fr (de_tup (da_cons (nv 0) (da_cons (nv 1) (da_cons (nv 2) (da_cons (nv 3) da_nil)))))))
 (ds_cons (ds_while PassesOwn.never (t_lt (nv 4) (PE.toB de_int))
 (ds_cons (ds_set (i := 5) sc_exact.nd rfl (.inl rfl) (PE.fr (ce c_by_root hr (ar_cons (nv 5) ar_nil))))
 (ds_one (ds_augAdd (i := 4) sc_exact.nd rfl (.inl rfl) (PE.toB de_int)))))
 (ds_cons (ds_while PassesOwn.never (PW.pt (dw_and (t_gt (nv 4) (PE.toB de_int)) (dw_and1 (tst (de_allQ hr hT TB hcd rfl m_all (genS_of (by decide +kernel)) (ce c_by_root hr (ar_cons (nv 5) ar_nil)) qe_even)))))
 (ds_cons (ds_set (i := 5) sc_exact.nd rfl (.inl rfl) (PE.fr (bTuple m_tuple (PE.toB (de_lc rfl sc_exact.nd (di_row (ce c_by_root hr (ar_cons (nv 5) ar_nil))) (blkW N_exact (defScope s_exact) [("part", 6)] (by decide +kernel)) (fun B s H C cl fp => (dg_name sc_exact.nd (i := 6) rfl (.inl rfl))) (fun B s H C cl fp => dts_nil) (fun B s H C cl fp => (de_fdiv (nv 6) (PE.toB de_int))))))))
 (ds_cons (ds_augSub (i := 4) sc_exact.nd rfl (.inl rfl) (PE.toB de_int))
 (ds_one (ds_if (t_eq hr (nv 5) (PE.toB (de_tup (da_cons de_int (da_cons de_int (da_cons de_int (da_cons de_int da_nil)))))))
 (ds_one (ds_ret (PE.fr (dgl g_ZERO))))
 ds_nil)))))
 (ds_one (ds_ret (PE.fr (de_add (nv 5) (PE.toB (de_tup (da_cons (nv 4) da_nil)))))))))), ?_⟩
  subst e
  refine ⟨Nat.le_of_ble_eq_true rfl, Nat.le_of_ble_eq_true rfl, ?_⟩
  let G : Z4 → Int → Ge := fun y q => [some (.fro (.int x.a)), some (.fro (.int x.b)), some (.fro (.int x.c)), some (.fro (.int x.d)), some (.fro (.int q)), some (.fro (t4 y)), none]
  refine ⟨fun m Γ => ∃ y q, Γ = G y q ∧ Eqv x p y q ∧ (∀ n, Bd n x → Bd (n + ((-p).toNat - (-q).toNat)) y) ∧ q ≤ max p 0 ∧ (-q).toNat ≤ (-p).toNat ∧ m = (-q).toNat, ⟨_, x, p, rfl, Eqv.refl _ _, fun n h => by simpa using h, by omega, by omega, rfl⟩, ?_⟩
  rintro m _ ⟨y, q, rfl, e1, b1, q1, q2, rfl⟩
  refine mB (b := decide (q < 0)) (fun hq => ?_) (fun hq => ?_)
  · have hq := of_decide_eq_true hq
    refine ⟨List.nodup_nil, y, rfl, Nat.le_of_ble_eq_true rfl, Nat.le_of_ble_eq_true rfl, ?_⟩
    refine ⟨(-(q + 1)).toNat, by omega, rt y, q + 1, rfl, e1.trans (eqv_rt y q), fun n h => (bd_rt (b1 n h)).mono (by omega), by omega, by omega, rfl⟩
  · have hq := of_decide_eq_false hq
    refine ⟨fun m Γ => ∃ y q, Γ = G y q ∧ Eqv x p y q ∧ (∀ n, Bd n x → Bd (n + (-p).toNat) y) ∧ 0 ≤ q ∧ q ≤ max p 0 ∧ m = q.toNat, ⟨_, y, q, rfl, e1, fun n h => (b1 n h).mono (by omega), by omega, by omega, rfl⟩, ?_⟩
    clear hq q2 q1 b1 e1
    rintro m _ ⟨y, q, rfl, e1, b1, q1, q2, rfl⟩
    have fin : Canon y q → k' (.fro (t5 y q)) [.fro (.int x.a), .fro (.int x.b), .fro (.int x.c), .fro (.int x.d), .fro (.int p)] := fun hc => h y q ⟨hc, e1, b1, q2⟩
    refine mB (b := decide (0 < q)) (fun hq => ?_) (fun hq => ?_)
    · have hq := of_decide_eq_true hq
      refine ⟨List.nodup_nil, y, rfl, _, _, rfl, rfl, ?_⟩
      refine mB (fun hb => ?_) (fun hb => ?_)
      · have hv : Ev y := by
          simp only [List.all_cons, List.all_nil, Bool.and_eq_true, id, beq_iff_eq, if_true] at hb
          exact ⟨hb.1, hb.2.1, hb.2.2.1, hb.2.2.2.1⟩
        refine ⟨List.nodup_nil, y, rfl, _, rfl, ?_⟩
        refine lc_map [(rt y).a, (rt y).b, (rt y).c, (rt y).d] PyData.int (fun i => some (.int (i / 2))) rfl (Nat.le_of_ble_eq_true rfl) (fun i hi yes no hh => ⟨Nat.le_of_ble_eq_true rfl, wide_div (b := 2) (by decide) (by decide) (by decide) (by decide), hh _ rfl⟩) ?_
        refine ⟨Nat.le_of_ble_eq_true rfl, Nat.le_of_ble_eq_true rfl, Nat.le_of_ble_eq_true rfl, ⟨rfl, rfl⟩, ?_⟩
        refine mB (fun hz => ?_) (fun hz => ?_)
        · have hz2 : half (rt y) = zero := of_decide_eq_true ((eq_t4 (half (rt y)) zero).symm.trans hz)
          have hy : y = zero := by rw [← half_rt hv, hz2]; rfl
          subst hy
          exact h zero 0 ⟨⟨Int.le_refl _, .inl rfl⟩, e1.trans (eqv_zero q 0), fun n _ => bd_zero _, by omega⟩
        · refine ⟨(q - 1).toNat, by omega, half (rt y), q - 1, rfl, e1.trans (eqv_half hv), fun n h => bd_half (b1 n h), by omega, by omega, rfl⟩
      · have hv : ¬ Ev y := fun ⟨h1, h2, h3, h4⟩ => by
          simp [h1, h2, h3, h4] at hb
        exact ⟨Nat.le_of_ble_eq_true rfl, Nat.le_of_ble_eq_true rfl, fin ⟨q1, .inr hv⟩⟩
    · have hq := of_decide_eq_false hq
      exact ⟨Nat.le_of_ble_eq_true rfl, Nat.le_of_ble_eq_true rfl, fin ⟨q1, .inl (by omega)⟩⟩
end
end K73
set_option Elab.async false
set_option linter.all false
set_option maxRecDepth 100000
set_option maxHeartbeats 2000000
namespace K73
open PySem PySem.Spec PyProof.Rows L2 Dn Zw
section
variable {P : Program} {w : World} {K : PySem.W.Frag} {mg : Str → Option Value} {base : Heap} {T : Addr → Prop} {f : Addr} {fd : FuncData} {c Pt : Addr} {k : Nat}
/-- w^turns -/
def wp (t : Int) : Z4 :=
  let s : Int := if t % 8 < 4 then 1 else -1
  match (t % 4).toNat with
  | 0 => ⟨s, 0, 0, 0⟩
  | 1 => ⟨0, s, 0, 0⟩
  | 2 => ⟨0, 0, s, 0⟩
  | _ => ⟨0, 0, 0, s⟩
theorem ixN_of {n : Nat} {i : Int} {j : Nat} (h : i = (j : Int)) (hj : j < n) : ixN n i = some j := by
  subst h
  unfold ixN
  rw [if_pos (by omega), if_pos (by omega)]
  rfl
abbrev s_unit : Stmt := top 5
 def sp_unit : DSp := fun ρs k => ∃ t : Int, ρs = [.fro (.int t)] ∧ k (.fro (t5 (wp t) 0)) ρs
abbrev N_unit : List Str := ["turns", "told"]
theorem sc_unit : FnScope N_unit ["turns"] (defScope s_unit) := ⟨rfl, rfl, rfl, by decide +kernel, rfl, by decide +kernel, by decide +kernel⟩
theorem ok_unit (F : Fun K "unit" "unit" s_unit f fd) (m_tuple : mg "tuple" = none) :
    FnOk P w K mg base CX0 (k + 1) f fd ["turns"] (spD K T sp_unit) := by
  refine F.okD T sc_unit [] (fun ρs k ⟨t, e, h⟩ => by subst e; exact ⟨rfl, rfl⟩) fun cdv A outer s H E B ρs k' hcd0 hr ⟨t, e, h⟩ hB => ?_
  refine ⟨_, 
(ds_cons (ds_set (i := 1) sc_unit.nd rfl (.inl rfl) (de_lst (da_cons de_int (da_cons de_int (da_cons de_int (da_cons de_int da_nil))))))
 (ds_cons (ds_setIx (pv 1) (de_if (t_lt (de_mod (nv 0) (PE.toB de_int)) (PE.toB de_int)) de_int (de_neg (PE.toB de_int))) (PE.toB (de_mod (nv 0) (PE.toB de_int))))
 (ds_one (ds_ret (PE.fr (de_add (bTuple m_tuple (nb 1)) (PE.toB (de_tup (da_cons de_int da_nil))))))))), ?_⟩
  subst e
  refine ⟨Nat.le_of_ble_eq_true rfl, Nat.le_of_ble_eq_true rfl, ?_⟩
  have h4 : t % 4 = ((0 : Nat) : Int) ∨ t % 4 = ((1 : Nat) : Int) ∨ t % 4 = ((2 : Nat) : Int) ∨ t % 4 = ((3 : Nat) : Int) := by omega
  refine ⟨by show (0 : Int) < 8; decide, ?_⟩
  refine mB (b := decide (t % 8 < 4)) (fun hs => ?_) (fun hs => ?_)
  · have hs := of_decide_eq_true hs
    rcases h4 with e | e | e | e
    all_goals
      refine ⟨by show (0 : Int) < 4; decide, ?_⟩
      refine ⟨_, ixN_of (n := 4) e (by decide), ?_⟩
      refine ⟨Nat.le_of_ble_eq_true rfl, Nat.le_of_ble_eq_true rfl, ?_⟩
      have : wp t = wp t := rfl
      simp only [wp, hs, e, if_true] at h
      exact h
  · have hs := of_decide_eq_false hs
    rcases h4 with e | e | e | e
    all_goals
      refine ⟨by show (0 : Int) < 4; decide, ?_⟩
      refine ⟨_, ixN_of (n := 4) e (by decide), ?_⟩
      refine ⟨Nat.le_of_ble_eq_true rfl, Nat.le_of_ble_eq_true rfl, ?_⟩
      simp only [wp, hs, e, if_false] at h
      exact h
abbrev s_negate : Stmt := top 8
 def sp_negate : DSp := fun ρs k => ∃ x p, ρs = [.fro (t5 x p)] ∧ k (.fro (t5 (neg x) p)) ρs
abbrev N_negate : List Str := ["number", "part"]
theorem sc_negate : FnScope N_negate ["number"] (defScope s_negate) := ⟨rfl, rfl, rfl, by decide +kernel, rfl, by decide +kernel, by decide +kernel⟩
theorem ok_negate (F : Fun K "negate" "negate" s_negate f fd) (m_tuple : mg "tuple" = none) :
    FnOk P w K mg base CX0 (k + 1) f fd ["number"] (spD K T sp_negate) := by
  refine F.okD T sc_negate [] (fun ρs k ⟨x, p, e, h⟩ => by subst e; exact ⟨rfl, rfl⟩) fun cdv A outer s H E B ρs k' hcd0 hr ⟨x, p, e, h⟩ hB => ?_
  refine ⟨_, 
(ds_one (ds_ret (PE.fr (de_add (bTuple m_tuple (PE.toB (de_lc rfl sc_negate.nd (di_row (de_slice (nv 0) do_none (do_some (PE.toB de_int)))) (blkW N_negate (defScope s_negate) [("part", 1)] (by decide +kernel)) (fun B s H C cl fp => (dg_name sc_negate.nd (i := 1) rfl (.inl rfl))) (fun B s H C cl fp => dts_nil) (fun B s H C cl fp => (de_neg (nb 1)))))) (PE.toB (de_tup (da_cons (de_ix (nv 0) (PE.toB de_int)) da_nil))))))), ?_⟩
  subst e
  refine ⟨_, rfl, ?_⟩
  refine lc_map [x.a, x.b, x.c, x.d] PyData.int (fun i => some (.int (-i))) rfl (Nat.le_of_ble_eq_true rfl) (fun i hi yes no hh => ⟨Nat.le_of_ble_eq_true rfl, hh _ rfl⟩) ?_
  exact ⟨_, rfl, Nat.le_of_ble_eq_true rfl, Nat.le_of_ble_eq_true rfl, h⟩
abbrev s_conjugate : Stmt := top 9
 def sp_conjugate : DSp := fun ρs k => ∃ x p, ρs = [.fro (t5 x p)] ∧ k (.fro (t5 (conj x) p)) ρs
abbrev N_conjugate : List Str := ["number", "first", "second", "third", "fourth", "power"]
theorem sc_conjugate : FnScope N_conjugate ["number"] (defScope s_conjugate) := ⟨rfl, rfl, rfl, by decide +kernel, rfl, by decide +kernel, by decide +kernel⟩
theorem ok_conjugate (F : Fun K "conjugate" "conjugate" s_conjugate f fd) :
    FnOk P w K mg base CX0 (k + 1) f fd ["number"] (spD K T sp_conjugate) := by
  refine F.okD T sc_conjugate [] (fun ρs k ⟨x, p, e, h⟩ => by subst e; exact ⟨rfl, rfl⟩) fun cdv A outer s H E B ρs k' hcd0 hr ⟨x, p, e, h⟩ hB => ?_
  refine ⟨_, 
(ds_cons (ds_asg (nv 0) (dg_row (n := 5) rfl (dgs_cons (dg_name sc_conjugate.nd (i := 1) rfl (.inl rfl)) (dgs_cons (dg_name sc_conjugate.nd (i := 2) rfl (.inl rfl)) (dgs_cons (dg_name sc_conjugate.nd (i := 3) rfl (.inl rfl)) (dgs_cons (dg_name sc_conjugate.nd (i := 4) rfl (.inl rfl)) (dgs_cons (dg_name sc_conjugate.nd (i := 5) rfl (.inl rfl)) dgs_nil)))))))
 (ds_one (ds_ret (PE.fr (de_tup (da_cons (nv 1) (da_cons (de_neg (nb 4)) (da_cons (de_neg (nb 3)) (da_cons (de_neg (nb 2)) (da_cons (nv 5) da_nil)))))))))), ?_⟩
  subst e
  repeat (first | refine ⟨_, rfl, rfl, ?_⟩ | refine ⟨Nat.le_of_ble_eq_true rfl, ?_⟩)
  exact h
abbrev s_scaled : Stmt := top 10
 def sp_scaled : DSp := fun ρs k => ∃ x p n, ρs = [.fro (t5 x p), .fro (.int n)] ∧ ∀ y q, IsEx x (p + n) y q → k (.fro (t5 y q)) ρs
abbrev N_scaled : List Str := ["number", "power"]
theorem sc_scaled : FnScope N_scaled ["number", "power"] (defScope s_scaled) := ⟨rfl, rfl, rfl, by decide +kernel, rfl, by decide +kernel, by decide +kernel⟩
theorem ok_scaled (F : Fun K "scaled" "scaled" s_scaled f fd) (c_exact : Cal P w K mg base T k "exact" ["first", "second", "third", "fourth", "power"] sp_exact) :
    FnOk P w K mg base CX0 (k + 1) f fd ["number", "power"] (spD K T sp_scaled) := by
  refine F.okD T sc_scaled [] (fun ρs k ⟨x, p, n, e, h⟩ => by subst e; exact ⟨rfl, rfl⟩) fun cdv A outer s H E B ρs k' hcd0 hr ⟨x, p, n, e, h⟩ hB => ?_
  refine ⟨_, 
(ds_one (ds_ret (PE.fr (ce c_exact hr (ar_cons (de_ix (nv 0) (PE.toB de_int)) (ar_cons (de_ix (nv 0) (PE.toB de_int)) (ar_cons (de_ix (nv 0) (PE.toB de_int)) (ar_cons (de_ix (nv 0) (PE.toB de_int)) (ar_cons (de_add (de_ix (nv 0) (PE.toB de_int)) (nb 1)) ar_nil))))))))), ?_⟩
  subst e
  exact ⟨_, rfl, _, rfl, _, rfl, _, rfl, _, rfl, List.nodup_nil, x, p + n, rfl, fun y q hy => h y q hy⟩
end
end K73
set_option Elab.async false
set_option linter.all false
set_option maxRecDepth 100000
set_option maxHeartbeats 2000000
namespace K73
open PySem PySem.Spec PyProof.Rows L2 Dn Zw
section
variable {P : Program} {w : World} {K : PySem.W.Frag} {mg : Str → Option Value} {base : Heap} {T : Addr → Prop} {f : Addr} {fd : FuncData} {c Pt : Addr} {k : Nat}
theorem add_zero (x : Z4) : Zw.add zero x = x := by
  ext <;> simp [Zw.add, zero]
/-- a power that is no great number -/
def Lo (p : Int) : Prop := -(2 ^ 60) ≤ p ∧ p ≤ 2 ^ 60
abbrev s_add : Stmt := top 6
 def sp_add : DSp := fun ρs k => ∃ x p y q, ρs = [.fro (t5 x p), .fro (t5 y q)] ∧ Lo p ∧ Lo q ∧ ∀ z r, IsEx (plus x p y q) (max p q) z r → k (.fro (t5 z r)) ρs
abbrev N_add : List Str := ["one", "other", "power", "told", "number", "parts", "_", "before", "part"]
theorem sc_add : FnScope N_add ["one", "other"] (defScope s_add) := ⟨rfl, rfl, rfl, by decide +kernel, rfl, by decide +kernel, by decide +kernel⟩
theorem ok_add (F : Fun K "add" "add" s_add f fd) (c_exact : Cal P w K mg base T k "exact" ["first", "second", "third", "fourth", "power"] sp_exact) (c_by_root : Cal P w K mg base T k "by_root" ["number"] sp_by_root) (m_max : mg "max" = none) (m_range : mg "range" = none) (m_zip : mg "zip" = none) :
    FnOk P w K mg base CX0 (k + 1) f fd ["one", "other"] (spD K T sp_add) := by
  refine F.okD T sc_add [] (fun ρs k ⟨x, p, y, q, e, lp, lq, h⟩ => by subst e; exact ⟨rfl, rfl⟩) fun cdv A outer s H E B ρs k' hcd0 hr ⟨x, p, y, q, e, lp, lq, h⟩ hB => ?_
  refine ⟨_, 
(ds_cons (ds_set (i := 2) sc_add.nd rfl (.inl rfl) (PE.fr (bMax rfl m_max (de_ix (nv 0) (PE.toB de_int)) (PE.toB (de_ix (nv 1) (PE.toB de_int))))))
 (ds_cons (ds_set (i := 3) sc_add.nd rfl (.inl rfl) (PE.fr (de_lst (da_cons de_int (da_cons de_int (da_cons de_int (da_cons de_int da_nil)))))))
 (ds_cons (ds_for PassesOwn.never rfl (di_row (de_tup (da_cons (nv 0) (da_cons (nv 1) da_nil)))) (dg_name sc_add.nd (i := 4) rfl (.inl rfl))
 (ds_cons (ds_set (i := 5) sc_add.nd rfl (.inl rfl) (PE.fr (de_slice (nv 4) do_none (do_some (PE.toB de_int)))))
 (ds_cons (ds_for PassesOwn.never rfl (di_range1 rfl m_range (PE.toB (de_sub (nv 2) (PE.toB (de_ix (nv 4) (PE.toB de_int)))))) (dg_name sc_add.nd (i := 6) rfl (.inl rfl))
 (ds_one (ds_set (i := 5) sc_add.nd rfl (.inl rfl) (PE.fr (ce c_by_root hr (ar_cons (nv 5) ar_nil))))))
 (ds_one (ds_setLcF (i := 3) rfl sc_add.nd rfl rfl (sw_true rfl rfl rfl (by decide +kernel)) (di_zip rfl m_zip (nv 3) (nv 5)) (blkW N_add (defScope s_add) [("before", 7), ("part", 8)] (by decide +kernel)) (fun B s H C cl fp => (dg_row (n := 2) rfl (dgs_cons (dg_name sc_add.nd (i := 7) rfl (.inl rfl)) (dgs_cons (dg_name sc_add.nd (i := 8) rfl (.inl rfl)) dgs_nil)))) (fun B s H C cl fp => dts_nil) (fun B s H C cl fp => (de_add (nv 7) (nb 8))))))))
 (ds_one (ds_ret (PE.fr (ce c_exact hr (ar_cons (de_ix (nv 3) (PE.toB de_int)) (ar_cons (de_ix (nv 3) (PE.toB de_int)) (ar_cons (de_ix (nv 3) (PE.toB de_int)) (ar_cons (de_ix (nv 3) (PE.toB de_int)) (ar_cons (nv 2) ar_nil)))))))))))), ?_⟩
  subst e
  obtain ⟨m, hm⟩ : ∃ m : Int, m = if q > p then q else p := ⟨_, rfl⟩
  have hm2 : m = max p q := by rw [hm]; split <;> omega
  refine ⟨_, rfl, _, rfl, Nat.le_of_ble_eq_true rfl, Nat.le_of_ble_eq_true rfl, Nat.le_of_ble_eq_true rfl, ?_⟩
  refine ⟨Nat.le_of_ble_eq_true rfl, _, rfl, rfl, ?_⟩
  let G : Z4 → Option Rv → Option Rv → Option Rv → Ge := fun t a b c => [some (.fro (t5 x p)), some (.fro (t5 y q)), some (.fro (.int m)), some (.fro (l4 t)), a, b, c, none, none]
  let S : Nat → Z4 := fun i => match i with
    | 0 => zero
    | 1 => rtn (m - p).toNat x
    | _ => Zw.add (rtn (m - p).toNat x) (rtn (m - q).toNat y)
  refine ⟨fun i Γ => ∃ a b c, Γ = G (S i) a b c, ⟨none, none, none, by subst hm; rfl⟩, ?_, ?_⟩
  · rintro i d _ hd ⟨a, b, c, rfl⟩
    have hz : ∃ z r, d = t5 z r ∧ r ≤ m ∧ Lo r ∧ S (i + 1) = Zw.add (S i) (rtn (m - r).toNat z) := by
      rcases i with _ | _ | i
      · cases hd; exact ⟨x, p, rfl, by omega, lp, (add_zero _).symm⟩
      · cases hd; exact ⟨y, q, rfl, by omega, lq, rfl⟩
      · simp at hd
    obtain ⟨z, r, rfl, hr1, lr, hS⟩ := hz
    have lm : Lo m := by rw [hm]; split <;> assumption
    unfold Lo at lr lm
    refine ⟨Nat.le_of_ble_eq_true rfl, Nat.le_of_ble_eq_true rfl, _, rfl, ⟨by show -(2 ^ 62) ≤ m - r; omega, by show m - r < 2 ^ 62; omega⟩, rfl, ?_⟩
    refine ⟨fun j Γ => ∃ c, Γ = G (S i) (some (.fro (t5 z r))) (some (.fro (t4 (rtn j z)))) c, ⟨c, rfl⟩, ?_, ?_⟩
    · rintro j d _ hj ⟨c, rfl⟩
      exact ⟨Nat.le_of_ble_eq_true rfl, List.nodup_nil, rtn j z, rfl, Nat.le_of_ble_eq_true rfl, _, rfl⟩
    · rintro _ ⟨c, rfl⟩
      rw [rngD_len]
      generalize hR : rtn (m - r).toNat z = R
      have hR' : rtn (m - r).toNat z = R := hR
      rw [hR'] at hS
      refine ⟨_, _, rfl, rfl, ?_⟩
      refine lc_map [((S i).a, R.a), ((S i).b, R.b), ((S i).c, R.c), ((S i).d, R.d)] (fun ab => .tuple [.int ab.1, .int ab.2]) (fun ab => some (.int (ab.1 + ab.2))) rfl (Nat.le_of_ble_eq_true rfl) (fun ab hi yes no hh => ⟨_, rfl, rfl, Nat.le_of_ble_eq_true rfl, Nat.le_of_ble_eq_true rfl, hh _ rfl⟩) ?_
      refine ⟨Nat.le_of_ble_eq_true rfl, ?_⟩
      exact ⟨_, _, _, by rw [hS]; rfl⟩
  · rintro _ ⟨a, b, c, rfl⟩
    refine ⟨_, rfl, _, rfl, _, rfl, _, rfl, List.nodup_nil, S 2, m, rfl, fun z r hz => h z r ?_⟩
    have : S 2 = plus x p y q := by show Zw.add _ _ = _; unfold plus; rw [hm2]
    rw [this, hm2] at hz
    exact hz
end
end K73
set_option Elab.async false
set_option linter.all false
set_option maxRecDepth 100000
set_option maxHeartbeats 2000000
namespace K73
open PySem PySem.Spec PyProof.Rows L2 Dn Zw
section
variable {P : Program} {w : World} {K : PySem.W.Frag} {mg : Str → Option Value} {base : Heap} {T : Addr → Prop} {f : Addr} {fd : FuncData} {c Pt : Addr} {k : Nat}
def coef (x : Z4) : Nat → Int
  | 0 => x.a
  | 1 => x.b
  | 2 => x.c
  | _ => x.d
def put (x : Z4) (m : Nat) (v : Int) : Z4 := match m with
  | 0 => ⟨v, x.b, x.c, x.d⟩
  | 1 => ⟨x.a, v, x.c, x.d⟩
  | 2 => ⟨x.a, x.b, v, x.d⟩
  | _ => ⟨x.a, x.b, x.c, v⟩
abbrev L4 (t : Z4) : List D := [.int t.a, .int t.b, .int t.c, .int t.d]
theorem lt4 {m : Nat} (h : m < 4) : m = 0 ∨ m = 1 ∨ m = 2 ∨ m = 3 := by omega
theorem L4_get {t : Z4} {m : Nat} {i : Int} (h : i = (m : Int)) (hm : m < 4) : atI (L4 t) i = some (.int (coef t m)) := by
  subst h
  rcases lt4 hm with rfl | rfl | rfl | rfl <;> rfl
theorem L4_set {t : Z4} {m : Nat} {v : Int} (hm : m < 4) : (L4 t).set m (.int v) = L4 (put t m v) := by
  rcases lt4 hm with rfl | rfl | rfl | rfl <;> rfl
theorem coef_bd {n : Nat} {x : Z4} (h : Bd n x) (m : Nat) : (coef x m).natAbs < 2 ^ n := by
  obtain ⟨h1, h2, h3, h4⟩ := h
  unfold coef
  split <;> assumption
def sg (i j : Nat) : Int := if i + j < 4 then 1 else -1
def stp (x y : Z4) (i j : Nat) (t : Z4) : Z4 := put t ((i + j) % 4) (coef t ((i + j) % 4) + sg i j * coef x i * coef y j)
def inn (x y : Z4) (i : Nat) (t : Z4) : Nat → Z4
  | 0 => t
  | j + 1 => stp x y i j (inn x y i t j)
def out (x y : Z4) : Nat → Z4
  | 0 => zero
  | i + 1 => inn x y i (out x y i) 4
theorem out_mul (x y : Z4) : out x y 4 = mul x y := by
  simp only [out, inn, stp, put, coef, sg, zero, mul]
  simp
  grind
theorem enum4 {x : Z4} {i : Nat} {d : D} (h : (enumD (L4 x))[i]? = some d) : i < 4 ∧ d = .tuple [.int (i : Nat), .int (coef x i)] := by
  have hi : i < 4 := by have := getElem?_len h; rw [enumD_len] at this; exact this
  refine ⟨hi, ?_⟩
  rcases lt4 hi with rfl | rfl | rfl | rfl <;> (cases h; rfl)
abbrev s_times : Stmt := top 7
 def sp_times : DSp := fun ρs k => ∃ x p y q, ρs = [.fro (t5 x p), .fro (t5 y q)] ∧ Bd 1000000 x ∧ Bd 1000000 y ∧ ∀ z r, IsEx (mul x y) (p + q) z r → k (.fro (t5 z r)) ρs
abbrev N_times : List Str := ["one", "other", "told", "place", "part", "at", "more", "sign"]
theorem sc_times : FnScope N_times ["one", "other"] (defScope s_times) := ⟨rfl, rfl, rfl, by decide +kernel, rfl, by decide +kernel, by decide +kernel⟩
theorem ok_times (F : Fun K "times" "times" s_times f fd) (c_exact : Cal P w K mg base T k "exact" ["first", "second", "third", "fourth", "power"] sp_exact) (m_enumerate : mg "enumerate" = none) :
    FnOk P w K mg base CX0 (k + 1) f fd ["one", "other"] (spD K T sp_times) := by
  refine F.okD T sc_times [] (fun ρs k ⟨x, p, y, q, e, bx, bY, h⟩ => by subst e; exact ⟨rfl, rfl⟩) fun cdv A outer s H E B ρs k' hcd0 hr ⟨x, p, y, q, e, bx, bY, h⟩ hB => ?_
  refine ⟨_, 
(ds_cons (ds_set (i := 2) sc_times.nd rfl (.inl rfl) (de_lst (da_cons de_int (da_cons de_int (da_cons de_int (da_cons de_int da_nil))))))
 (ds_cons (ds_for PassesOwn.never rfl (di_enum rfl m_enumerate (de_slice (nv 0) do_none (do_some (PE.toB de_int)))) (dg_row (n := 2) rfl (dgs_cons (dg_name sc_times.nd (i := 3) rfl (.inl rfl)) (dgs_cons (dg_name sc_times.nd (i := 4) rfl (.inl rfl)) dgs_nil)))
 (ds_one (ds_for PassesOwn.never rfl (di_enum rfl m_enumerate (de_slice (nv 1) do_none (do_some (PE.toB de_int)))) (dg_row (n := 2) rfl (dgs_cons (dg_name sc_times.nd (i := 5) rfl (.inl rfl)) (dgs_cons (dg_name sc_times.nd (i := 6) rfl (.inl rfl)) dgs_nil)))
 (ds_cons (ds_set (i := 7) sc_times.nd rfl (.inl rfl) (PE.fr (de_if (t_lt (de_add (nv 3) (nb 5)) (PE.toB de_int)) de_int (de_neg (PE.toB de_int)))))
 (ds_one (ds_augIx iop_add od_I0 (pv 2) (PE.toB (de_mod (de_add (nv 3) (nb 5)) (PE.toB de_int))) (PE.toB (de_mul (de_mul (nv 7) (nb 4)) (nb 6)))))))))
 (ds_one (ds_ret (PE.fr (ce c_exact hr (ar_cons (de_ixN (pv 2) (PE.toB de_int)) (ar_cons (de_ixN (pv 2) (PE.toB de_int)) (ar_cons (de_ixN (pv 2) (PE.toB de_int)) (ar_cons (de_ixN (pv 2) (PE.toB de_int)) (ar_cons (de_add (de_ix (nv 0) (PE.toB de_int)) (PE.toB (de_ix (nv 1) (PE.toB de_int)))) ar_nil))))))))))), ?_⟩
  subst e
  let G : Z4 → Option Rv → Option Rv → Option Rv → Option Rv → Option Rv → Ge := fun t a b c d e => [some (.fro (t5 x p)), some (.fro (t5 y q)), some (.lst (L4 t)), a, b, c, d, e]
  refine ⟨Nat.le_of_ble_eq_true rfl, Nat.le_of_ble_eq_true rfl, _, rfl, rfl, ?_⟩
  refine ⟨fun i Γ => ∃ a b c d e, Γ = G (out x y i) a b c d e, ⟨none, none, none, none, none, rfl⟩, ?_, ?_⟩
  · rintro i d _ hd ⟨a, b, c, d', e, rfl⟩
    obtain ⟨hi, rfl⟩ := enum4 (x := x) hd
    refine ⟨_, rfl, rfl, Nat.le_of_ble_eq_true rfl, Nat.le_of_ble_eq_true rfl, _, rfl, rfl, ?_⟩
    refine ⟨fun j Γ => ∃ c d e, Γ = G (inn x y i (out x y i) j) (some (.fro (.int (i : Nat)))) (some (.fro (.int (coef x i)))) c d e, ⟨_, _, _, rfl⟩, ?_, ?_⟩
    · rintro j d _ hj ⟨c, d', e, rfl⟩
      obtain ⟨hj, rfl⟩ := enum4 (x := y) hj
      refine ⟨_, rfl, rfl, Nat.le_of_ble_eq_true rfl, Nat.le_of_ble_eq_true rfl, ?_⟩
      have hm : (i + j) % 4 < 4 := Nat.mod_lt _ (by decide)
      have hm2 : ((i : Int) + (j : Int)) % 4 = (((i + j) % 4 : Nat) : Int) := by omega
      have c1 := coef_bd bx i
      have c2 := coef_bd bY j
      refine mB (b := decide ((i : Int) + (j : Int) < 4)) (fun hs => ?_) (fun hs => ?_)
      · have hs := of_decide_eq_true hs
        have es : sg i j = 1 := if_pos (by omega)
        refine ⟨Nat.le_of_ble_eq_true rfl, by show (0 : Int) < 4; decide, _, L4_get hm2 hm, mulx_ok (a := 1) (by decide) c1 (by decide), mulx_ok (a := 1 + 1000000) (nm (by decide) c1) c2 (by decide), _, ixN_of hm2 hm, ?_⟩
        refine ⟨some (.fro (.int (j : Nat))), some (.fro (.int (coef y j))), some (.fro (.int 1)), ?_⟩
        show _ = G (stp x y i j (inn x y i (out x y i) j)) _ _ _ _ _
        unfold stp
        rw [es]
        exact congrArg (fun l => ([some (Rv.fro (t5 x p)), some (Rv.fro (t5 y q)), some (Rv.lst l), some (Rv.fro (.int (i : Nat))), some (Rv.fro (.int (coef x i))), some (Rv.fro (.int (j : Nat))), some (Rv.fro (.int (coef y j))), some (Rv.fro (.int (1)))] : Ge)) (L4_set hm)
      · have hs := of_decide_eq_false hs
        have es : sg i j = -1 := if_neg (by omega)
        refine ⟨Nat.le_of_ble_eq_true rfl, by show (0 : Int) < 4; decide, _, L4_get hm2 hm, mulx_ok (a := 1) (by decide) c1 (by decide), mulx_ok (a := 1 + 1000000) (nm (by decide) c1) c2 (by decide), _, ixN_of hm2 hm, ?_⟩
        refine ⟨some (.fro (.int (j : Nat))), some (.fro (.int (coef y j))), some (.fro (.int (-1))), ?_⟩
        show _ = G (stp x y i j (inn x y i (out x y i) j)) _ _ _ _ _
        unfold stp
        rw [es]
        exact congrArg (fun l => ([some (Rv.fro (t5 x p)), some (Rv.fro (t5 y q)), some (Rv.lst l), some (Rv.fro (.int (i : Nat))), some (Rv.fro (.int (coef x i))), some (Rv.fro (.int (j : Nat))), some (Rv.fro (.int (coef y j))), some (Rv.fro (.int (-1)))] : Ge)) (L4_set hm)
    · rintro _ ⟨c, d, e, rfl⟩
      exact ⟨_, _, _, _, _, rfl⟩
  · rintro _ ⟨a, b, c, d, e, rfl⟩
    refine ⟨_, rfl, _, rfl, _, rfl, _, rfl, _, rfl, _, rfl, List.nodup_nil, out x y 4, p + q, rfl, fun z r hz => h z r ?_⟩
    rw [out_mul] at hz
    exact hz
end
end K73
set_option Elab.async false
set_option linter.all false
set_option maxRecDepth 100000
set_option maxHeartbeats 2000000
namespace K73
open PySem PySem.Spec PyProof.Rows L2 Dn Zw
section
variable {P : Program} {w : World} {K : PySem.W.Frag} {mg : Str → Option Value} {base : Heap} {T : Addr → Prop} {f : Addr} {fd : FuncData} {c Pt : Addr} {k : Nat}
/-- the law's numbers -/
abbrev nd (x : Z4) (e : Int) : D := .tuple [l4 x, .int e]
def Sm (e : Int) : Prop := 0 ≤ e ∧ e ≤ 1000
theorem mem4 {i : Nat} (h : i ∈ [0, 1, 2, 3]) : i < 4 := by
  simp at h; omega
theorem pw_bd {n : Nat} (h : n ≤ 2000) : ((1 : Int) * 2 ^ n).natAbs < 2 ^ 2001 := by
  rw [Int.one_mul, Int.natAbs_pow]
  exact Nat.pow_lt_pow_right (by decide) (by omega)
abbrev s__law_own : Stmt := top 23
 def sp__law_own : DSp := fun ρs k => ∃ y q, ρs = [.fro (t5 y q)] ∧ (q % 2 = 1 → k (.fro (nd (rt y) ((q + 1) / 2))) ρs) ∧ (¬ q % 2 = 1 → k (.fro (nd y (q / 2))) ρs)
abbrev N__law_own : List Str := ["number", "a", "b", "c", "d", "power"]
theorem sc__law_own : FnScope N__law_own ["number"] (defScope s__law_own) := ⟨rfl, rfl, rfl, by decide +kernel, rfl, by decide +kernel, by decide +kernel⟩
theorem ok__law_own (F : Fun K "_law_own" "_law_own" s__law_own f fd) :
    FnOk P w K mg base CX0 (k + 1) f fd ["number"] (spD K T sp__law_own) := by
  refine F.okD T sc__law_own [] (fun ρs k ⟨y, q, e, h1, h2⟩ => by subst e; exact ⟨rfl, rfl⟩) fun cdv A outer s H E B ρs k' hcd0 hr ⟨y, q, e, h1, h2⟩ hB => ?_
  refine ⟨_, 
(ds_cons (ds_asg (nv 0) (dg_row (n := 5) rfl (dgs_cons (dg_name sc__law_own.nd (i := 1) rfl (.inl rfl)) (dgs_cons (dg_name sc__law_own.nd (i := 2) rfl (.inl rfl)) (dgs_cons (dg_name sc__law_own.nd (i := 3) rfl (.inl rfl)) (dgs_cons (dg_name sc__law_own.nd (i := 4) rfl (.inl rfl)) (dgs_cons (dg_name sc__law_own.nd (i := 5) rfl (.inl rfl)) dgs_nil)))))))
 (ds_cons (ds_if (t_eq hr (de_mod (nv 5) (PE.toB de_int)) (PE.toB de_int))
 (ds_one (ds_asg (de_tup (da_cons (de_sub (nv 2) (nb 4)) (da_cons (de_add (nv 1) (nb 3)) (da_cons (de_add (nv 2) (nb 4)) (da_cons (de_sub (nv 3) (nb 1)) (da_cons (de_add (nv 5) (PE.toB de_int)) da_nil)))))) (dg_row (n := 5) rfl (dgs_cons (dg_name sc__law_own.nd (i := 1) rfl (.inl rfl)) (dgs_cons (dg_name sc__law_own.nd (i := 2) rfl (.inl rfl)) (dgs_cons (dg_name sc__law_own.nd (i := 3) rfl (.inl rfl)) (dgs_cons (dg_name sc__law_own.nd (i := 4) rfl (.inl rfl)) (dgs_cons (dg_name sc__law_own.nd (i := 5) rfl (.inl rfl)) dgs_nil))))))))
 ds_nil)
 (ds_one (ds_ret (PE.fr (de_tup (da_cons (de_lst (da_cons (nv 1) (da_cons (nv 2) (da_cons (nv 3) (da_cons (nv 4) da_nil))))) (da_cons (de_fdiv (nv 5) (PE.toB de_int)) da_nil)))))))), ?_⟩
  subst e
  refine ⟨_, rfl, rfl, Nat.le_of_ble_eq_true rfl, Nat.le_of_ble_eq_true rfl, Nat.le_of_ble_eq_true rfl, Nat.le_of_ble_eq_true rfl, Nat.le_of_ble_eq_true rfl, ?_⟩
  refine ⟨by show (0 : Int) < 2; decide, ⟨rfl, rfl⟩, ?_⟩
  refine mB (b := (q % 2 == 1)) (fun hq => ?_) (fun hq => ?_)
  · refine ⟨Nat.le_of_ble_eq_true rfl, _, rfl, rfl, Nat.le_of_ble_eq_true rfl, Nat.le_of_ble_eq_true rfl, Nat.le_of_ble_eq_true rfl, Nat.le_of_ble_eq_true rfl, Nat.le_of_ble_eq_true rfl, ?_⟩
    exact ⟨Nat.le_of_ble_eq_true rfl, wide_div (b := 2) (by decide) (by decide) (by decide) (by decide), Nat.le_of_ble_eq_true rfl, h1 (by simpa using hq)⟩
  · exact ⟨Nat.le_of_ble_eq_true rfl, wide_div (b := 2) (by decide) (by decide) (by decide) (by decide), Nat.le_of_ble_eq_true rfl, h2 (by simpa using hq)⟩
abbrev s__law_plus : Stmt := top 24
 def sp__law_plus : DSp := fun ρs k => ∃ x e y f, ρs = [.fro (nd x e), .fro (nd y f)] ∧ Bd 1000000 x ∧ Bd 1000000 y ∧ Sm e ∧ Sm f ∧ k (.fro (nd (plus x (2 * e) y (2 * f)) (max e f))) ρs
abbrev N__law_plus : List Str := ["one", "other", "deep", "k"]
theorem sc__law_plus : FnScope N__law_plus ["one", "other"] (defScope s__law_plus) := ⟨rfl, rfl, rfl, by decide +kernel, rfl, by decide +kernel, by decide +kernel⟩
theorem ok__law_plus (F : Fun K "_law_plus" "_law_plus" s__law_plus f fd) (m_max : mg "max" = none) (m_range : mg "range" = none) :
    FnOk P w K mg base CX0 (k + 1) f fd ["one", "other"] (spD K T sp__law_plus) := by
  refine F.okD T sc__law_plus [] (fun ρs k ⟨x, e, y, f, e0, bx, bY, se, sf, h⟩ => by subst e0; exact ⟨rfl, rfl⟩) fun cdv A outer s H E B ρs k' hcd0 hr ⟨x, e, y, f, e0, bx, bY, se, sf, h⟩ hB => ?_
  refine ⟨_, 
(ds_cons (ds_set (i := 2) sc__law_plus.nd rfl (.inr rfl) (PE.fr (bMax rfl m_max (de_ix (nv 0) (PE.toB de_int)) (PE.toB (de_ix (nv 1) (PE.toB de_int))))))
 (ds_one (ds_ret (PE.fr (de_tup (da_cons (de_lc rfl sc__law_plus.nd (di_range1 rfl m_range (PE.toB de_int)) (blkW N__law_plus (defScope s__law_plus) [("k", 3)] (by decide +kernel)) (fun B s H C cl fp => (dg_name sc__law_plus.nd (i := 3) rfl (.inl rfl))) (fun B s H C cl fp => dts_nil) (fun B s H C cl fp => (de_add (de_mul (de_ix (de_ix (nv 0) (PE.toB de_int)) (nb 3)) (PE.toB (de_shl de_int (PE.toB (de_sub (nv 2) (PE.toB (de_ix (nv 0) (PE.toB de_int)))))))) (PE.toB (de_mul (de_ix (de_ix (nv 1) (PE.toB de_int)) (nb 3)) (PE.toB (de_shl de_int (PE.toB (de_sub (nv 2) (PE.toB (de_ix (nv 1) (PE.toB de_int)))))))))))) (da_cons (nv 2) da_nil))))))), ?_⟩
  subst e0
  obtain ⟨m, hm⟩ : ∃ m : Int, m = if f > e then f else e := ⟨_, rfl⟩
  have hm2 : m = max e f := by rw [hm]; split <;> omega
  unfold Sm at se sf
  refine ⟨_, rfl, _, rfl, Nat.le_of_ble_eq_true rfl, ?_⟩
  refine ⟨⟨by show -(2 ^ 62) ≤ (4 : Int); decide, by show (4 : Int) < 2 ^ 62; decide⟩, ?_⟩
  refine lc_map [0, 1, 2, 3] (fun i => .int ((i : Nat) : Int)) (fun i => some (.int (coef x i * (1 * 2 ^ (m - e).toNat) + coef y i * (1 * 2 ^ (m - f).toNat)))) rfl (Nat.le_of_ble_eq_true rfl) (fun i hi yes no hh => ?_) ?_
  · have i4 := mem4 hi
    have l1 : (m - e).toNat ≤ 2000 := by omega
    have l2 : (m - f).toNat ≤ 2000 := by omega
    have s1 : CShl 1 (m - e) := by
      have := shl_ok (i := 1) (j := (m - e).toNat) (n := 1) (by decide) (by omega)
      rwa [show (((m - e).toNat : Nat) : Int) = m - e by omega] at this
    have s2 : CShl 1 (m - f) := by
      have := shl_ok (i := 1) (j := (m - f).toNat) (n := 1) (by decide) (by omega)
      rwa [show (((m - f).toNat : Nat) : Int) = m - f by omega] at this
    subst hm
    exact ⟨Nat.le_of_ble_eq_true rfl, _, rfl, _, L4_get rfl i4, _, rfl, s1, mulx_ok (coef_bd bx i) (pw_bd l1) (by decide), _, rfl, _, L4_get rfl i4, _, rfl, s2, mulx_ok (coef_bd bY i) (pw_bd l2) (by decide), hh _ rfl⟩
  · refine ⟨Nat.le_of_ble_eq_true rfl, ?_⟩
    rw [← pl_eq, ← hm2] at h
    subst hm
    exact h
theorem mapI_get {o : List Int} {m : Nat} {i : Int} (h : i = (m : Int)) (hm : m < o.length) : atI (o.map PyData.int) i = some (.int (o.getD m 0)) := by
  unfold atI
  rw [ixN_of h (by simpa using hm)]
  show (o.map PyData.int)[m]? = _
  rw [List.getElem?_map, List.getElem?_eq_getElem hm, List.getD_eq_getElem?_getD, List.getElem?_eq_getElem hm]
  rfl
def bstp (x y : Z4) (i j : Nat) (o : List Int) : List Int := o.set (i + j) (o.getD (i + j) 0 + coef x i * coef y j)
def binn (x y : Z4) (i : Nat) (o : List Int) : Nat → List Int
  | 0 => o
  | j + 1 => bstp x y i j (binn x y i o j)
def bout (x y : Z4) : Nat → List Int
  | 0 => [0, 0, 0, 0, 0, 0, 0]
  | i + 1 => binn x y i (bout x y i) 4
theorem binn_len (x y : Z4) (i : Nat) (o : List Int) : ∀ j, (binn x y i o j).length = o.length
  | 0 => rfl
  | j + 1 => by simp only [binn, bstp, List.length_set]; exact binn_len x y i o j
theorem bout_len (x y : Z4) : ∀ i, (bout x y i).length = 7
  | 0 => rfl
  | i + 1 => by simp only [bout]; rw [binn_len]; exact bout_len x y i
def bfin (o : List Int) (i : Nat) : Int := o.getD i 0 - if (i : Int) < 3 then o.getD (i + 4) 0 else 0
theorem bfin_mul (x y : Z4) : mul x y = ⟨bfin (bout x y 4) 0, bfin (bout x y 4) 1, bfin (bout x y 4) 2, bfin (bout x y 4) 3⟩ := by
  simp only [bout, binn, bstp, coef, bfin, mul]
  simp
  grind
theorem rng4 {i : Nat} {d : D} (h : (rngD 0 1 (4 : Int).toNat)[i]? = some d) : i < 4 ∧ d = .int ((i : Nat) : Int) := by
  obtain ⟨h1, h2⟩ := rngD_get h
  exact ⟨h1, by rw [h2]; congr 1; omega⟩
abbrev s__law_by : Stmt := top 25
 def sp__law_by : DSp := fun ρs k => ∃ x e y f, ρs = [.fro (nd x e), .fro (nd y f)] ∧ Bd 1000000 x ∧ Bd 1000000 y ∧ k (.fro (nd (mul x y) (e + f))) ρs
abbrev N__law_by : List Str := ["one", "other", "out", "k", "j"]
theorem sc__law_by : FnScope N__law_by ["one", "other"] (defScope s__law_by) := ⟨rfl, rfl, rfl, by decide +kernel, rfl, by decide +kernel, by decide +kernel⟩
theorem ok__law_by (F : Fun K "_law_by" "_law_by" s__law_by f fd) (m_range : mg "range" = none) :
    FnOk P w K mg base CX0 (k + 1) f fd ["one", "other"] (spD K T sp__law_by) := by
  refine F.okD T sc__law_by [] (fun ρs k ⟨x, e, y, f, e0, bx, bY, h⟩ => by subst e0; exact ⟨rfl, rfl⟩) fun cdv A outer s H E B ρs k' hcd0 hr ⟨x, e, y, f, e0, bx, bY, h⟩ hB => ?_
  refine ⟨_, 
(ds_cons (ds_set (i := 2) sc__law_by.nd rfl (.inr rfl) (de_mul (de_lst (da_cons de_int da_nil)) (PE.toB de_int)))
 (ds_cons (ds_for PassesOwn.never rfl (di_range1 rfl m_range (PE.toB de_int)) (dg_name sc__law_by.nd (i := 3) rfl (.inl rfl))
 (ds_one (ds_for PassesOwn.never rfl (di_range1 rfl m_range (PE.toB de_int)) (dg_name sc__law_by.nd (i := 4) rfl (.inl rfl))
 (ds_one (ds_setIx (pv 2) (de_add (de_ixN (pv 2) (PE.toB (de_add (nv 3) (nb 4)))) (PE.toB (de_mul (de_ix (de_ix (nv 0) (PE.toB de_int)) (nb 3)) (PE.toB (de_ix (de_ix (nv 1) (PE.toB de_int)) (nb 4)))))) (PE.toB (de_add (nv 3) (nb 4))))))))
 (ds_one (ds_ret (PE.fr (de_tup (da_cons (de_lc rfl sc__law_by.nd (di_range1 rfl m_range (PE.toB de_int)) (blkW N__law_by (defScope s__law_by) [("k", 3)] (by decide +kernel)) (fun B s H C cl fp => (dg_name sc__law_by.nd (i := 3) rfl (.inl rfl))) (fun B s H C cl fp => dts_nil) (fun B s H C cl fp => (de_sub (de_ixN (pv 2) (nb 3)) (PE.toB (de_if (t_lt (nv 3) (PE.toB de_int)) (de_ixN (pv 2) (PE.toB (de_add (nv 3) (PE.toB de_int)))) de_int))))) (da_cons (de_add (de_ix (nv 0) (PE.toB de_int)) (PE.toB (de_ix (nv 1) (PE.toB de_int)))) da_nil)))))))), ?_⟩
  subst e0
  let G : List Int → Option Rv → Option Rv → Ge := fun o a b => [some (.fro (nd x e)), some (.fro (nd y f)), some (.lst (o.map .int)), a, b]
  have r4 : -(2 ^ 62) ≤ (4 : Int) ∧ (4 : Int) < 2 ^ 62 := by decide
  refine ⟨Nat.le_of_ble_eq_true rfl, ⟨by show -(2 ^ 63) ≤ (7 : Int); decide, by show (7 : Int) < 2 ^ 63; decide, line1000 (Nat.le_of_ble_eq_true rfl)⟩, Nat.le_of_ble_eq_true rfl, ?_⟩
  refine ⟨r4, rfl, fun i Γ => ∃ a b, Γ = G (bout x y i) a b, ⟨none, none, rfl⟩, ?_, ?_⟩
  · rintro i d _ hd ⟨a, b, rfl⟩
    obtain ⟨hi, rfl⟩ := rng4 hd
    refine ⟨Nat.le_of_ble_eq_true rfl, r4, rfl, fun j Γ => ∃ b, Γ = G (binn x y i (bout x y i) j) (some (.fro (.int ((i : Nat) : Int)))) b, ⟨_, rfl⟩, ?_, ?_⟩
    · rintro j d _ hj ⟨b, rfl⟩
      obtain ⟨hj2, rfl⟩ := rng4 hj
      have lo : i + j < (binn x y i (bout x y i) j).length := by rw [binn_len, bout_len]; omega
      have ei : (i : Int) + (j : Int) = ((i + j : Nat) : Int) := by omega
      refine ⟨Nat.le_of_ble_eq_true rfl, _, mapI_get ei lo, _, rfl, _, L4_get rfl hi, _, rfl, _, L4_get rfl hj2, mulx_ok (coef_bd bx i) (coef_bd bY j) (by decide), _, ixN_of ei (by rw [List.length_map]; exact lo), ?_⟩
      refine ⟨some (.fro (.int ((j : Nat) : Int))), ?_⟩
      exact congrArg (fun l => ([some (Rv.fro (nd x e)), some (Rv.fro (nd y f)), some (Rv.lst l), some (Rv.fro (.int ((i : Nat) : Int))), some (Rv.fro (.int ((j : Nat) : Int)))] : Ge)) (List.map_set (f := PyData.int)).symm
    · rintro _ ⟨b, rfl⟩
      exact ⟨_, _, rfl⟩
  · rintro _ ⟨a, b, rfl⟩
    rw [show (rngD 0 1 (4 : Int).toNat).length = 4 from rfl]
    have l7 := bout_len x y 4
    refine ⟨r4, ?_⟩
    refine lc_map [0, 1, 2, 3] (fun i => .int ((i : Nat) : Int)) (fun i => some (.int (bfin (bout x y 4) i))) rfl (Nat.le_of_ble_eq_true rfl) (fun i hi yes no hh => ?_) ?_
    · have i4 := mem4 hi
      refine ⟨Nat.le_of_ble_eq_true rfl, _, mapI_get rfl (show i < (bout x y 4).length by omega), ?_⟩
      refine mB (b := decide ((i : Int) < 3)) (fun hs => ?_) (fun hs => ?_)
      · have hs := of_decide_eq_true hs
        refine ⟨_, mapI_get (show (i : Int) + 4 = ((i + 4 : Nat) : Int) by omega) (by omega), ?_⟩
        unfold bfin at hh
        rw [if_pos hs] at hh
        exact hh _ rfl
      · have hs := of_decide_eq_false hs
        unfold bfin at hh
        rw [if_neg hs] at hh
        exact hh _ rfl
    · rw [bfin_mul] at h
      exact ⟨_, rfl, _, rfl, Nat.le_of_ble_eq_true rfl, h⟩
abbrev s__law_like : Stmt := top 26
 def sp__law_like : DSp := fun ρs k => ∃ x e y f, ρs = [.fro (nd x e), .fro (nd y f)] ∧ Bd 1000000 x ∧ Bd 1000000 y ∧ Sm e ∧ Sm f ∧ ∀ b : Bool, (Eqv x (2 * e) y (2 * f) → b = true) → k (.fro (.bool b)) ρs
abbrev N__law_like : List Str := ["one", "other", "deep", "k"]
theorem sc__law_like : FnScope N__law_like ["one", "other"] (defScope s__law_like) := ⟨rfl, rfl, rfl, by decide +kernel, rfl, by decide +kernel, by decide +kernel⟩
theorem ok__law_like (F : Fun K "_law_like" "_law_like" s__law_like f fd) (m_max : mg "max" = none) (m_range : mg "range" = none) :
    FnOk P w K mg base CX0 (k + 1) f fd ["one", "other"] (spD K T sp__law_like) := by
  refine F.okD T sc__law_like [] (fun ρs k ⟨x, e, y, f, e0, bx, bY, se, sf, h⟩ => by subst e0; exact ⟨rfl, rfl⟩) fun cdv A outer s H E B ρs k' hcd0 hr ⟨x, e, y, f, e0, bx, bY, se, sf, h⟩ hB => ?_
  refine ⟨_, 
(ds_cons (ds_set (i := 2) sc__law_like.nd rfl (.inr rfl) (PE.fr (bMax rfl m_max (de_ix (nv 0) (PE.toB de_int)) (PE.toB (de_ix (nv 1) (PE.toB de_int))))))
 (ds_one (ds_ret (PE.fr (c_eq hr (de_lc rfl sc__law_like.nd (di_range1 rfl m_range (PE.toB de_int)) (blkW N__law_like (defScope s__law_like) [("k", 3)] (by decide +kernel)) (fun B s H C cl fp => (dg_name sc__law_like.nd (i := 3) rfl (.inl rfl))) (fun B s H C cl fp => dts_nil) (fun B s H C cl fp => (de_shl (de_ix (de_ix (nv 0) (PE.toB de_int)) (nb 3)) (PE.toB (de_sub (nv 2) (PE.toB (de_ix (nv 0) (PE.toB de_int)))))))) (PE.toB (de_lc rfl sc__law_like.nd (di_range1 rfl m_range (PE.toB de_int)) (blkW N__law_like (defScope s__law_like) [("k", 3)] (by decide +kernel)) (fun B s H C cl fp => (dg_name sc__law_like.nd (i := 3) rfl (.inl rfl))) (fun B s H C cl fp => dts_nil) (fun B s H C cl fp => (de_shl (de_ix (de_ix (nv 1) (PE.toB de_int)) (nb 3)) (PE.toB (de_sub (nv 2) (PE.toB (de_ix (nv 1) (PE.toB de_int)))))))))))))), ?_⟩
  subst e0
  obtain ⟨m, hm⟩ : ∃ m : Int, m = if f > e then f else e := ⟨_, rfl⟩
  have hm2 : m = max e f := by rw [hm]; split <;> omega
  unfold Sm at se sf
  have r4 : -(2 ^ 62) ≤ (4 : Int) ∧ (4 : Int) < 2 ^ 62 := by decide
  have key : ∀ {z : Z4} {g : Int}, Bd 1000000 z → 0 ≤ g → g ≤ m → ∀ i, CShl (coef z i) (m - g) := fun {z g} hz h1 h2 i => by
    have := shl_ok (j := (m - g).toNat) (coef_bd hz i) (by omega)
    rwa [show (((m - g).toNat : Nat) : Int) = m - g by omega] at this
  refine ⟨_, rfl, _, rfl, Nat.le_of_ble_eq_true rfl, r4, ?_⟩
  subst hm
  refine lc_map [0, 1, 2, 3] (fun i => .int ((i : Nat) : Int)) (fun i => some (.int (coef x i * 2 ^ ((if f > e then f else e) - e).toNat))) rfl (Nat.le_of_ble_eq_true rfl) (fun i hi yes no hh => ⟨Nat.le_of_ble_eq_true rfl, _, rfl, _, L4_get rfl (mem4 hi), _, rfl, key bx se.1 (by omega) i, hh _ rfl⟩) ?_
  refine ⟨r4, ?_⟩
  refine lc_map [0, 1, 2, 3] (fun i => .int ((i : Nat) : Int)) (fun i => some (.int (coef y i * 2 ^ ((if f > e then f else e) - f).toNat))) rfl (Nat.le_of_ble_eq_true rfl) (fun i hi yes no hh => ⟨Nat.le_of_ble_eq_true rfl, _, rfl, _, L4_get rfl (mem4 hi), _, rfl, key bY sf.1 (by omega) i, hh _ rfl⟩) ?_
  refine ⟨⟨rfl, rfl⟩, ?_⟩
  refine h (PyData.eqv (l4 (shl ((if f > e then f else e) - e).toNat x)) (l4 (shl ((if f > e then f else e) - f).toNat y))) fun hv => ?_
  have z := like_iff hv
  rw [← hm2] at z
  rw [z]
  exact (eq_t4 _ _).trans (decide_eq_true rfl)
abbrev s__law_w : Stmt := top 27
 def sp__law_w : DSp := fun ρs k => ∃ t : Int, ρs = [.fro (.int t)] ∧ k (.fro (nd (wp t) 0)) ρs
abbrev N__law_w : List Str := ["turns", "parts"]
theorem sc__law_w : FnScope N__law_w ["turns"] (defScope s__law_w) := ⟨rfl, rfl, rfl, by decide +kernel, rfl, by decide +kernel, by decide +kernel⟩
theorem ok__law_w (F : Fun K "_law_w" "_law_w" s__law_w f fd) :
    FnOk P w K mg base CX0 (k + 1) f fd ["turns"] (spD K T sp__law_w) := by
  refine F.okD T sc__law_w [] (fun ρs k ⟨t, e, h⟩ => by subst e; exact ⟨rfl, rfl⟩) fun cdv A outer s H E B ρs k' hcd0 hr ⟨t, e, h⟩ hB => ?_
  refine ⟨_, 
(ds_cons (ds_set (i := 1) sc__law_w.nd rfl (.inl rfl) (de_lst (da_cons de_int (da_cons de_int (da_cons de_int (da_cons de_int da_nil))))))
 (ds_cons (ds_setIx (pv 1) (de_sub de_int (PE.toB (de_mul de_int (PE.toB (de_mod (de_fdiv (nv 0) (PE.toB de_int)) (PE.toB de_int)))))) (PE.toB (de_mod (nv 0) (PE.toB de_int))))
 (ds_one (ds_ret (PE.fr (de_tup (da_cons (PE.frzVar (pv 1) hB) (da_cons de_int da_nil)))))))), ?_⟩
  subst e
  have h4 : t % 4 = ((0 : Nat) : Int) ∨ t % 4 = ((1 : Nat) : Int) ∨ t % 4 = ((2 : Nat) : Int) ∨ t % 4 = ((3 : Nat) : Int) := by omega
  refine ⟨Nat.le_of_ble_eq_true rfl, Nat.le_of_ble_eq_true rfl, wide_div (b := 3) (by decide) (by decide) (by decide) (by decide), by show (0 : Int) < 2; decide, mulx_ok (a := 2) (b := 2) (by decide) (by show (t / 4 % 2).natAbs < 2 ^ 2; omega) (by decide), ?_⟩
  have es : (1 : Int) - 2 * (t / 4 % 2) = if t % 8 < 4 then 1 else -1 := by split <;> omega
  rcases h4 with e | e | e | e
  all_goals
    refine ⟨by show (0 : Int) < 4; decide, _, ixN_of (n := 4) e (by decide), Nat.le_of_ble_eq_true rfl, ?_⟩
    simp only [wp, e, ← es] at h
    exact h
abbrev s__law_minus : Stmt := top 28
 def sp__law_minus : DSp := fun ρs k => ∃ x e, ρs = [.fro (nd x e)] ∧ k (.fro (nd (neg x) e)) ρs
abbrev N__law_minus : List Str := ["one", "part"]
theorem sc__law_minus : FnScope N__law_minus ["one"] (defScope s__law_minus) := ⟨rfl, rfl, rfl, by decide +kernel, rfl, by decide +kernel, by decide +kernel⟩
theorem ok__law_minus (F : Fun K "_law_minus" "_law_minus" s__law_minus f fd) :
    FnOk P w K mg base CX0 (k + 1) f fd ["one"] (spD K T sp__law_minus) := by
  refine F.okD T sc__law_minus [] (fun ρs k ⟨x, e, e0, h⟩ => by subst e0; exact ⟨rfl, rfl⟩) fun cdv A outer s H E B ρs k' hcd0 hr ⟨x, e, e0, h⟩ hB => ?_
  refine ⟨_, 
(ds_one (ds_ret (PE.fr (de_tup (da_cons (de_lc rfl sc__law_minus.nd (di_row (de_ix (nv 0) (PE.toB de_int))) (blkW N__law_minus (defScope s__law_minus) [("part", 1)] (by decide +kernel)) (fun B s H C cl fp => (dg_name sc__law_minus.nd (i := 1) rfl (.inl rfl))) (fun B s H C cl fp => dts_nil) (fun B s H C cl fp => (de_sub de_int (nb 1)))) (da_cons (de_ix (nv 0) (PE.toB de_int)) da_nil)))))), ?_⟩
  subst e0
  refine ⟨_, rfl, _, rfl, ?_⟩
  refine lc_map [x.a, x.b, x.c, x.d] PyData.int (fun i => some (.int (0 - i))) rfl (Nat.le_of_ble_eq_true rfl) (fun i hi yes no hh => ⟨Nat.le_of_ble_eq_true rfl, hh _ rfl⟩) ?_
  refine ⟨_, rfl, Nat.le_of_ble_eq_true rfl, ?_⟩
  have : neg x = ⟨0 - x.a, 0 - x.b, 0 - x.c, 0 - x.d⟩ := by ext <;> simp [neg]
  rw [this] at h
  exact h
abbrev s__law_bar : Stmt := top 29
 def sp__law_bar : DSp := fun ρs k => ∃ x e, ρs = [.fro (nd x e)] ∧ k (.fro (nd (conj x) e)) ρs
abbrev N__law_bar : List Str := ["one", "a", "b", "c", "d"]
theorem sc__law_bar : FnScope N__law_bar ["one"] (defScope s__law_bar) := ⟨rfl, rfl, rfl, by decide +kernel, rfl, by decide +kernel, by decide +kernel⟩
theorem ok__law_bar (F : Fun K "_law_bar" "_law_bar" s__law_bar f fd) :
    FnOk P w K mg base CX0 (k + 1) f fd ["one"] (spD K T sp__law_bar) := by
  refine F.okD T sc__law_bar [] (fun ρs k ⟨x, e, e0, h⟩ => by subst e0; exact ⟨rfl, rfl⟩) fun cdv A outer s H E B ρs k' hcd0 hr ⟨x, e, e0, h⟩ hB => ?_
  refine ⟨_, 
(ds_cons (ds_asg (de_ix (nv 0) (PE.toB de_int)) (dg_row (n := 4) rfl (dgs_cons (dg_name sc__law_bar.nd (i := 1) rfl (.inl rfl)) (dgs_cons (dg_name sc__law_bar.nd (i := 2) rfl (.inl rfl)) (dgs_cons (dg_name sc__law_bar.nd (i := 3) rfl (.inl rfl)) (dgs_cons (dg_name sc__law_bar.nd (i := 4) rfl (.inl rfl)) dgs_nil))))))
 (ds_one (ds_ret (PE.fr (de_tup (da_cons (de_lst (da_cons (nv 1) (da_cons (de_sub de_int (nb 4)) (da_cons (de_sub de_int (nb 3)) (da_cons (de_sub de_int (nb 2)) da_nil))))) (da_cons (de_ix (nv 0) (PE.toB de_int)) da_nil))))))), ?_⟩
  subst e0
  refine ⟨_, rfl, _, rfl, rfl, Nat.le_of_ble_eq_true rfl, Nat.le_of_ble_eq_true rfl, Nat.le_of_ble_eq_true rfl, Nat.le_of_ble_eq_true rfl, Nat.le_of_ble_eq_true rfl, _, rfl, Nat.le_of_ble_eq_true rfl, ?_⟩
  have : conj x = ⟨x.a, 0 - x.d, 0 - x.c, 0 - x.b⟩ := by ext <;> simp [conj]
  rw [this] at h
  exact h
end
end K73
set_option Elab.async false
set_option linter.all false
set_option maxRecDepth 100000
set_option maxHeartbeats 2000000
namespace K73
open PySem PySem.Spec PyProof.Rows L2 Dn Zw
section
variable {P : Program} {w : World} {K : PySem.W.Frag} {mg : Str → Option Value} {base : Heap} {T : Addr → Prop} {f : Addr} {fd : FuncData} {c Pt : Addr} {k : Nat}
abbrev s__law_form : Stmt := top 30
 def sp__law_form : DSp := fun ρs k => ∃ y q, ρs = [.fro (t5 y q)] ∧ Canon y q ∧ k (.fro (.bool true)) ρs
abbrev N__law_form : List Str := ["number", "a", "b", "c", "d", "power", "part"]
theorem sc__law_form : FnScope N__law_form ["number"] (defScope s__law_form) := ⟨rfl, rfl, rfl, by decide +kernel, rfl, by decide +kernel, by decide +kernel⟩
theorem ok__law_form (F : Fun K "_law_form" "_law_form" s__law_form f fd) (m_all : mg "all" = none) (m_bool : mg "bool" = none) (m_int : mg "int" = none) (m_isinstance : mg "isinstance" = none) (m_len : mg "len" = none) (m_tuple : mg "tuple" = none) :
    FnOk P w K mg base CX0 (k + 1) f fd ["number"] (spD K T sp__law_form) := by
  refine F.okD T sc__law_form [] (fun ρs k ⟨y, q, e, hc, h⟩ => by subst e; exact ⟨rfl, rfl⟩) fun cdv A outer s H E B ρs k' hcd0 hr ⟨y, q, e, hc, h⟩ hB => ?_
  refine ⟨_, 
(ds_cons (ds_if (PW.pt (dw_or (dt_not (tst (de_isi isT_tuple rfl m_isinstance rfl m_tuple boot_tuple (nb 0)))) (dw_or (t_ne hr (bLen m_len (nb 0)) (PE.toB de_int)) (dw_or1 (dt_not (tst (bAll rfl m_all (PE.toB (de_lc rfl sc__law_form.nd (di_row (nv 0)) (blkW N__law_form (defScope s__law_form) [("part", 6)] (by decide +kernel)) (fun B s H C cl fp => (dg_name sc__law_form.nd (i := 6) rfl (.inl rfl))) (fun B s H C cl fp => dts_nil) (fun B s H C cl fp => (de_and (de_isi isT_int rfl m_isinstance rfl m_int boot_int (nb 6)) (de_one (de_not (de_isi isT_bool rfl m_isinstance rfl m_bool boot_bool (nb 6)))))))))))))))
 (ds_one (ds_ret (PE.fr de_bl)))
 ds_nil)
 (ds_cons (ds_asg (nv 0) (dg_row (n := 5) rfl (dgs_cons (dg_name sc__law_form.nd (i := 1) rfl (.inl rfl)) (dgs_cons (dg_name sc__law_form.nd (i := 2) rfl (.inl rfl)) (dgs_cons (dg_name sc__law_form.nd (i := 3) rfl (.inl rfl)) (dgs_cons (dg_name sc__law_form.nd (i := 4) rfl (.inl rfl)) (dgs_cons (dg_name sc__law_form.nd (i := 5) rfl (.inl rfl)) dgs_nil)))))))
 (ds_cons (ds_if (PW.pt (dw_or (t_lt (nv 5) (PE.toB de_int)) (dw_or1 (PW.pt (dw_and (t_eq hr (de_lst (da_cons (nv 1) (da_cons (nv 2) (da_cons (nv 3) (da_cons (nv 4) da_nil))))) (PE.toB (de_lst (da_cons de_int (da_cons de_int (da_cons de_int (da_cons de_int da_nil))))))) (dw_and1 (t_gt (nv 5) (PE.toB de_int))))))))
 (ds_one (ds_ret (PE.fr de_bl)))
 ds_nil)
 (ds_one (ds_ret (PE.fr (de_or (c_eq hr (nv 5) (PE.toB de_int)) (de_or (c_eq hr (de_mod (de_add (nv 1) (nb 3)) (PE.toB de_int)) (PE.toB de_int)) (de_one (c_eq hr (de_mod (de_add (nv 2) (nb 4)) (PE.toB de_int)) (PE.toB de_int))))))))))), ?_⟩
  subst e
  obtain ⟨hq, hc⟩ := hc
  refine ⟨⟨rfl, rfl⟩, _, rfl, ?_⟩
  refine lc_map [y.a, y.b, y.c, y.d, q] PyData.int (fun i => some (.bool true)) rfl (Nat.le_of_ble_eq_true rfl) (fun i hi yes no hh => ⟨Nat.le_of_ble_eq_true rfl, hh _ rfl⟩) ?_
  refine ⟨_, rfl, _, rfl, rfl, Nat.le_of_ble_eq_true rfl, Nat.le_of_ble_eq_true rfl, Nat.le_of_ble_eq_true rfl, Nat.le_of_ble_eq_true rfl, Nat.le_of_ble_eq_true rfl, ?_⟩
  refine mB (b := decide (q < 0)) (fun hb => absurd (of_decide_eq_true hb) (by omega)) (fun _ => ?_)
  refine ⟨Nat.le_of_ble_eq_true rfl, Nat.le_of_ble_eq_true rfl, ⟨rfl, rfl⟩, ?_⟩
  have body : dRet (dF (dOrV (dOp dEq (dVar 5) (dB (dC (.int 0)))) (dOrV (dOp dEq (dOp (dI2 (fun _ j => 0 < j) (· % ·)) (dOp dAdd (dVar 1) (dBor 3)) (dB (dC (.int 2)))) (dB (dC (.int 1)))) (dOp dEq (dOp (dI2 (fun _ j => 0 < j) (· % ·)) (dOp dAdd (dVar 2) (dBor 4)) (dB (dC (.int 2)))) (dB (dC (.int 1)))))))
      { nx := fun Γ => k' (.fro .none) (backOf [] [.fro (t5 y q)] Γ), rt := fun ρ Γ => k' ρ (backOf [] [.fro (t5 y q)] Γ) }
      [some (.fro (t5 y q)), some (.fro (.int y.a)), some (.fro (.int y.b)), some (.fro (.int y.c)), some (.fro (.int y.d)), some (.fro (.int q)), none] := by
    refine ⟨⟨rfl, rfl⟩, ?_⟩
    refine mB (b := (q == 0)) (fun _ => h) (fun hb => ?_)
    refine ⟨by show (0 : Int) < 2; decide, ⟨rfl, rfl⟩, ?_⟩
    refine mB (b := ((y.a + y.c) % 2 == 1)) (fun _ => h) (fun hb2 => ?_)
    refine ⟨by show (0 : Int) < 2; decide, ⟨rfl, rfl⟩, ?_⟩
    have : ((y.b + y.d) % 2 == 1) = true := by
      rcases hc with hc | hc
      · simp [hc] at hb
      · rw [ev_iff] at hc
        simp only [beq_eq_false_iff_ne, ne_eq, beq_iff_eq] at hb2 ⊢
        omega
    show k' (.fro (.bool ((y.b + y.d) % 2 == 1))) _
    rw [this]
    exact h
  refine mB (fun hz => ?_) (fun _ => body)
  refine mB (b := decide (0 < q)) (fun hb => ?_) (fun _ => body)
  have hb := of_decide_eq_true hb
  have hy : y = zero := of_decide_eq_true ((eq_t4 y zero).symm.trans hz)
  subst hy
  rcases hc with hc | hc
  · omega
  · exact (hc ⟨rfl, rfl, rfl, rfl⟩).elim
abbrev s__law_is : Stmt := top 31
 def sp__law_is : DSp := fun ρs k => ∃ y q x e, ρs = [.fro (t5 y q), .fro (nd x e)] ∧ Canon y q ∧ Eqv y q x (2 * e) ∧ Bd 900000 y ∧ Bd 900000 x ∧ q ≤ 1000 ∧ Sm e ∧ k (.fro (.bool true)) ρs
abbrev N__law_is : List Str := ["told", "due"]
theorem sc__law_is : FnScope N__law_is ["told", "due"] (defScope s__law_is) := ⟨rfl, rfl, rfl, by decide +kernel, rfl, by decide +kernel, by decide +kernel⟩
theorem ok__law_is (F : Fun K "_law_is" "_law_is" s__law_is f fd) (c__law_form : Cal P w K mg base T k "_law_form" ["number"] sp__law_form) (c__law_like : Cal P w K mg base T k "_law_like" ["one", "other"] sp__law_like) (c__law_own : Cal P w K mg base T k "_law_own" ["number"] sp__law_own) :
    FnOk P w K mg base CX0 (k + 1) f fd ["told", "due"] (spD K T sp__law_is) := by
  refine F.okD T sc__law_is [] (fun ρs k ⟨y, q, x, e, e0, hc, hv, bY, bx, hq, se, h⟩ => by subst e0; exact ⟨rfl, rfl⟩) fun cdv A outer s H E B ρs k' hcd0 hr ⟨y, q, x, e, e0, hc, hv, bY, bx, hq, se, h⟩ hB => ?_
  refine ⟨_, 
(ds_one (ds_ret (PE.fr (de_and (ce c__law_form hr (ar_cons (nv 0) ar_nil)) (de_one (ce c__law_like hr (ar_cons (ce c__law_own hr (ar_cons (nv 0) ar_nil)) (ar_cons (nv 1) ar_nil)))))))), ?_⟩
  subst e0
  have h0 := hc.1
  refine ⟨List.nodup_nil, y, q, rfl, hc, ?_⟩
  refine ⟨List.nodup_nil, y, q, rfl, fun ho => ?_, fun ho => ?_⟩
  · have hv2 : Eqv (rt y) (2 * ((q + 1) / 2)) x (2 * e) := by
      rw [show 2 * ((q + 1) / 2) = q + 1 by omega]
      exact (eqv_rt y q).symm.trans hv
    exact ⟨List.nodup_nil, rt y, (q + 1) / 2, x, e, rfl, (bd_rt bY).mono (by omega), bx.mono (by omega), ⟨by omega, by omega⟩, se, fun b hb => by rw [hb hv2]; exact h⟩
  · have hv2 : Eqv y (2 * (q / 2)) x (2 * e) := by
      rw [show 2 * (q / 2) = q by omega]
      exact hv
    exact ⟨List.nodup_nil, y, q / 2, x, e, rfl, bY.mono (by omega), bx.mono (by omega), ⟨by omega, by omega⟩, se, fun b hb => by rw [hb hv2]; exact h⟩
/-- the script as the law has it -/
def SOk (ns : List Int) : Prop := ∃ b : Nat, b ≤ 1048576 ∧ ∀ n ∈ ns, n.natAbs < 2 ^ b
abbrev st (a b : Int) : Rv := .lst [.int a, .int b]
theorem atI_mem {α : Type} {xs : List α} {i : Int} (h0 : 0 ≤ i) (h : i < xs.length) : ∃ x, atI xs i = some x ∧ x ∈ xs := by
  have hi : i.toNat < xs.length := by omega
  refine ⟨xs[i.toNat], ?_, List.getElem_mem hi⟩
  unfold atI
  rw [ixN_of (j := i.toNat) (by omega) hi]
  exact List.getElem?_eq_getElem hi
theorem refill_bits {B0 : Nat} {i cell : Int} (B0_le : B0 ≤ 1048576) (bi : i.natAbs < 2 ^ 51) (hc : cell.natAbs < 2 ^ (B0 + 124)) : CMulX cell 48271 ∧ CMulX (cell * 48271 + i * 69621 + 12345) 40692 := by
  have b1 : (cell * 48271).natAbs < 2 ^ (B0 + 124 + 16) := nm hc (by decide)
  have b2 : (i * 69621).natAbs < 2 ^ (51 + 17) := nm bi (by decide)
  have b3 : (cell * 48271 + i * 69621 + 12345).natAbs < 2 ^ (B0 + 224) := by
    have e1 : (2 : Nat) ^ (B0 + 124 + 16) ≤ 2 ^ (B0 + 222) := two_le (by omega)
    have e2 : (2 : Nat) ^ (51 + 17) ≤ 2 ^ (B0 + 222) := two_le (by omega)
    have e3 : (2 : Nat) ^ 20 ≤ 2 ^ (B0 + 222) := two_le (by omega)
    have e4 : (2 : Nat) ^ (B0 + 224) = 4 * 2 ^ (B0 + 222) := by rw [show B0 + 224 = (B0 + 222) + 2 from rfl, Nat.pow_add _ _ 2, Nat.mul_comm]
    rw [e4]
    generalize (2 : Nat) ^ (B0 + 222) = u at *
    generalize (2 : Nat) ^ (B0 + 124 + 16) = u1 at *
    generalize (2 : Nat) ^ (51 + 17) = u2 at *
    generalize cell * 48271 = v1 at *
    generalize i * 69621 = v2 at *
    omega
  exact ⟨mulx_ok hc (b := 16) (by decide) (by omega), mulx_ok b3 (b := 16) (by decide) (by omega)⟩
theorem refill_neg {B0 : Nat} {cell : Int} (hc : cell.natAbs < 2 ^ (B0 + 24)) : (1 - 2 * cell).natAbs < 2 ^ (B0 + 124) := by
  have b1 : (2 * cell).natAbs < 2 ^ (2 + (B0 + 24)) := nm (by decide) hc
  have e1 : (2 : Nat) ^ (2 + (B0 + 24)) ≤ 2 ^ (B0 + 122) := two_le (by omega)
  have e3 : (2 : Nat) ^ 20 ≤ 2 ^ (B0 + 122) := two_le (by omega)
  have e4 : (2 : Nat) ^ (B0 + 124) = 4 * 2 ^ (B0 + 122) := by rw [show B0 + 124 = (B0 + 122) + 2 from rfl, Nat.pow_add _ _ 2, Nat.mul_comm]
  rw [e4]
  generalize (2 : Nat) ^ (B0 + 122) = u at *
  generalize (2 : Nat) ^ (2 + (B0 + 24)) = u1 at *
  omega
abbrev s__law_refill : Stmt := top 20
 def sp__law_refill : DSp := fun ρs k => ∃ ns i, ρs = [.scr ns, .fro (.int i)] ∧ SOk ns ∧ 0 ≤ i ∧ i ≤ 2 ^ 50 ∧ ∀ v : Int, k (.fro (.int v)) ρs
abbrev N__law_refill : List Str := ["script", "k", "cell"]
theorem sc__law_refill : FnScope N__law_refill ["script", "k"] (defScope s__law_refill) := ⟨rfl, rfl, rfl, by decide +kernel, rfl, by decide +kernel, by decide +kernel⟩
theorem ok__law_refill (F : Fun K "_law_refill" "_law_refill" s__law_refill f fd) (m_int : mg "int" = none) (m_len : mg "len" = none) :
    FnOk P w K mg base CX0 (k + 1) f fd ["script", "k"] (spD K T sp__law_refill) := by
  refine F.okD T sc__law_refill [] (fun ρs k ⟨ns, i, e, so, i0, i1, h⟩ => by subst e; exact ⟨rfl, rfl⟩) fun cdv A outer s H E B ρs k' hcd0 hr ⟨ns, i, e, so, i0, i1, h⟩ hB => ?_
  refine ⟨_, 
(ds_cons (ds_set (i := 2) sc__law_refill.nd rfl (.inl rfl) (PE.fr de_int))
 (ds_cons (ds_if (nt 0)
 (ds_one (ds_set (i := 2) sc__law_refill.nd rfl (.inl rfl) (PE.fr (scr_ix (pv 0) (PE.toB (de_mod (nv 1) (PE.toB (scr_len (pv 0) m_len))))))))
 ds_nil)
 (ds_cons (ds_if (t_lt (nv 2) (PE.toB de_int))
 (ds_one (ds_set (i := 2) sc__law_refill.nd rfl (.inl rfl) (PE.fr (de_sub de_int (PE.toB (de_mul de_int (nb 2)))))))
 ds_nil)
 (ds_cons (ds_if (PW.pt (dw_and (t_ge (nv 2) (PE.toB (de_powC 1000000000000000000 (by decide +kernel) ⟨by decide, by decide, by decide⟩))) (dw_and1 (t_lt (nv 1) (PE.toB (scr_len (pv 0) m_len))))))
 (ds_one (ds_ret (PE.fr (nv 2))))
 ds_nil)
 (ds_one (ds_ret (PE.fr (de_mod (bInt m_int (PE.toB (de_add (de_mul (bInt m_int (PE.toB (de_add (de_add (de_mul (nv 2) (PE.toB de_int)) (PE.toB (de_mul (nv 1) (PE.toB de_int)))) (PE.toB de_int)))) (PE.toB de_int)) (PE.toB de_int)))) (PE.toB de_int))))))))), ?_⟩
  subst e
  obtain ⟨B0, B0_le, so⟩ := so
  have bi : i.natAbs < 2 ^ 51 := by omega
  have ci : CMulX i 69621 := mulx_ok bi (b := 17) (by decide) (by decide)
  have up : ∀ {c : Int}, c.natAbs < 2 ^ (B0 + 24) → c.natAbs < 2 ^ (B0 + 124) := fun hc => Nat.lt_of_lt_of_le hc (two_le (by omega))
  have M : (0 : Int) < 2147483399 := by decide
  refine ⟨Nat.le_of_ble_eq_true rfl, ?_⟩
  refine mB (fun hb => ?_) (fun _ => ?_)
  · have hpos : 0 < ns.length := by
      cases ns with
      | nil => cases hb
      | cons a l => simp
    obtain ⟨n, hn, hm⟩ := atI_mem (xs := ns) (i := i % (ns.length : Int)) (Int.emod_nonneg _ (by omega)) (Int.emod_lt_of_pos _ (by omega))
    have bn : n.natAbs < 2 ^ (B0 + 24) := Nat.lt_of_lt_of_le (so n hm) (two_le (by omega))
    refine ⟨by show (0 : Int) < (ns.length : Int); omega, n, hn, Nat.le_of_ble_eq_true rfl, ?_⟩
    refine mB (fun _ => ?_) (fun _ => ?_)
    · obtain ⟨c1, c2⟩ := refill_bits (i := i) B0_le bi (refill_neg bn)
      refine ⟨mulx_ok (a := 2) (by decide) bn (by omega), Nat.le_of_ble_eq_true rfl, ?_⟩
      exact mB (fun _ => mB (fun _ => h _) (fun _ => ⟨c1, ci, c2, M, h _⟩)) (fun _ => ⟨c1, ci, c2, M, h _⟩)
    · obtain ⟨c1, c2⟩ := refill_bits (i := i) B0_le bi (up bn)
      exact mB (fun _ => mB (fun _ => h _) (fun _ => ⟨c1, ci, c2, M, h _⟩)) (fun _ => ⟨c1, ci, c2, M, h _⟩)
  · have b0 : (0 : Int).natAbs < 2 ^ (B0 + 24) := Nat.pow_pos (by decide)
    obtain ⟨c1, c2⟩ := refill_bits (i := i) B0_le bi (up b0)
    exact ⟨c1, ci, c2, M, h _⟩
abbrev s__law_draw : Stmt := top 21
 def sp__law_draw : DSp := fun ρs k => ∃ a b ns size, ρs = [st a b, .scr ns, .fro (.int size)] ∧ SOk ns ∧ 0 ≤ a ∧ a ≤ 2 ^ 50 ∧ 0 < size ∧ size < 2 ^ 64 ∧ ∀ (d a' b' : Int), 0 ≤ d → d < size → a ≤ a' → a' ≤ a + 1 → k (.fro (.int d)) [st a' b', .scr ns, .fro (.int size)]
abbrev N__law_draw : List Str := ["state", "script", "size", "digit"]
theorem sc__law_draw : FnScope N__law_draw ["state", "script", "size"] (defScope s__law_draw) := ⟨rfl, rfl, rfl, by decide +kernel, rfl, by decide +kernel, by decide +kernel⟩
theorem ok__law_draw (F : Fun K "_law_draw" "_law_draw" s__law_draw f fd) (c__law_refill : Cal P w K mg base T k "_law_refill" ["script", "k"] sp__law_refill) (m_int : mg "int" = none) :
    FnOk P w K mg base CX0 (k + 1) f fd ["state", "script", "size"] (spD K T sp__law_draw) := by
  refine F.okD T sc__law_draw [0] (fun ρs k ⟨a, b, ns, size, e, so, a0, a1, s0, s1, h⟩ => by subst e; exact ⟨rfl, rfl⟩) fun cdv A outer s H E B ρs k' hcd0 hr ⟨a, b, ns, size, e, so, a0, a1, s0, s1, h⟩ hB => ?_
  refine ⟨_, 
(ds_cons (ds_if (t_eq hr (de_ixN (pv 0) (PE.toB de_int)) (PE.toB de_int))
 (ds_cons (ds_setIx (pv 0) (ce c__law_refill hr (ar_own (pv 1) (ar_cons (de_ixN (pv 0) (PE.toB de_int)) ar_nil))) (PE.toB de_int))
 (ds_one (ds_setIx (pv 0) (de_add (de_ixN (pv 0) (PE.toB de_int)) (PE.toB de_int)) (PE.toB de_int))))
 ds_nil)
 (ds_cons (ds_set (i := 3) sc__law_draw.nd rfl (.inl rfl) (PE.fr (de_mod (bInt m_int (PE.toB (de_ixN (pv 0) (PE.toB de_int)))) (nb 2))))
 (ds_cons (ds_setIx (pv 0) (de_fdiv (de_ixN (pv 0) (PE.toB de_int)) (nb 2)) (PE.toB de_int))
 (ds_one (ds_ret (PE.fr (nv 3))))))), ?_⟩
  subst e
  have hs : CDivW 0 size := wide_div (b := 64) s0 (by omega) (by decide) (by decide)
  refine ⟨_, rfl, ⟨rfl, rfl⟩, ?_⟩
  have fin : ∀ a' b' : Int, a ≤ a' → a' ≤ a + 1 → dSeq (dSet 3 (dF (dOp (dI2 (fun _ j => 0 < j) (· % ·)) (dUn dInt (dB (dIxN 0 (dB (dC (.int 1)))))) (dBor 2)))) (dSeq (dSetIx 0 (dOp (dI2 CDivW (· / ·)) (dIxN 0 (dB (dC (.int 1)))) (dBor 2)) (dB (dC (.int 1)))) (dRet (dF (dVar 3))))
      { nx := fun Γ => k' (.fro .none) (backOf [0] [st a b, .scr ns, .fro (.int size)] Γ), rt := fun ρ Γ => k' ρ (backOf [0] [st a b, .scr ns, .fro (.int size)] Γ) } [some (st a' b'), some (.scr ns), some (.fro (.int size)), none] := by
    intro a' b' h1 h2
    refine ⟨_, rfl, s0, Nat.le_of_ble_eq_true rfl, _, rfl, hs, _, rfl, ?_⟩
    exact h (b' % size) a' (b' / size) (Int.emod_nonneg _ (by omega)) (Int.emod_lt_of_pos _ s0) h1 h2
  refine mB (b := (b == 0)) (fun _ => ?_) (fun _ => fin a b (by omega) (by omega))
  refine ⟨_, rfl, List.nodup_cons.mpr ⟨List.not_mem_nil, List.nodup_nil⟩, ns, a, rfl, so, a0, a1, fun v => ⟨_, rfl, _, rfl, _, rfl, fin (a + 1) v (by omega) (by omega)⟩⟩
end
end K73
set_option Elab.async false
set_option linter.all false
set_option maxRecDepth 100000
set_option maxHeartbeats 2000000
namespace K73
open PySem PySem.Spec PyProof.Rows L2 Dn Zw
section
variable {P : Program} {w : World} {K : PySem.W.Frag} {mg : Str → Option Value} {base : Heap} {T : Addr → Prop} {f : Addr} {fd : FuncData} {c Pt : Addr} {k : Nat}
abbrev s__law_told : Stmt := top 33
 def sp__law_told : DSp := fun ρs k => ∃ x e, ρs = [.fro (nd x e)] ∧ Sm e ∧ ∀ y q, IsEx x (2 * e) y q → k (.fro (t5 y q)) ρs
abbrev N__law_told : List Str := ["number", "parts", "deep", "a", "b", "c", "d"]
theorem sc__law_told : FnScope N__law_told ["number"] (defScope s__law_told) := ⟨rfl, rfl, rfl, by decide +kernel, rfl, by decide +kernel, by decide +kernel⟩
theorem ok__law_told (F : Fun K "_law_told" "_law_told" s__law_told f fd) (m_list : mg "list" = none) (m_tuple : mg "tuple" = none) :
    FnOk P w K mg base CX0 (k + 1) f fd ["number"] (spD K T sp__law_told) := by
  refine F.okD T sc__law_told [] (fun ρs k ⟨x, e, e0, se, h⟩ => by subst e0; exact ⟨rfl, rfl⟩) fun cdv A outer s H E B ρs k' hcd0 hr ⟨x, e, e0, se, h⟩ hB => ?_
  refine ⟨_, 
(ds_cons (ds_par (i := 1) (j := 2) rfl sc__law_told.nd rfl rfl (by decide) rfl rfl (da_cons (bList m_list (PE.toB (de_ix (nv 0) (PE.toB de_int)))) (da_cons (de_mul de_int (PE.toB (de_ix (nv 0) (PE.toB de_int)))) da_nil)) rfl)
 (ds_cons (ds_while PassesOwn.never (PW.pt (dw_and (t_gt (nv 2) (PE.toB de_int)) (dw_and (t_eq hr (de_mod (de_add (de_ix (nv 1) (PE.toB de_int)) (PE.toB (de_ix (nv 1) (PE.toB de_int)))) (PE.toB de_int)) (PE.toB de_int)) (dw_and1 (t_eq hr (de_mod (de_add (de_ix (nv 1) (PE.toB de_int)) (PE.toB (de_ix (nv 1) (PE.toB de_int)))) (PE.toB de_int)) (PE.toB de_int))))))
 (ds_cons (ds_asg (nv 1) (dg_row (n := 4) rfl (dgs_cons (dg_name sc__law_told.nd (i := 3) rfl (.inl rfl)) (dgs_cons (dg_name sc__law_told.nd (i := 4) rfl (.inl rfl)) (dgs_cons (dg_name sc__law_told.nd (i := 5) rfl (.inl rfl)) (dgs_cons (dg_name sc__law_told.nd (i := 6) rfl (.inl rfl)) dgs_nil))))))
 (ds_one (ds_par (i := 1) (j := 2) rfl sc__law_told.nd rfl rfl (by decide) rfl rfl (da_cons (de_lst (da_cons (de_fdiv (de_sub (nv 4) (nb 6)) (PE.toB de_int)) (da_cons (de_fdiv (de_add (nv 3) (nb 5)) (PE.toB de_int)) (da_cons (de_fdiv (de_add (nv 4) (nb 6)) (PE.toB de_int)) (da_cons (de_fdiv (de_sub (nv 5) (nb 3)) (PE.toB de_int)) da_nil))))) (da_cons (de_sub (nv 2) (PE.toB de_int)) da_nil)) rfl))))
 (ds_cons (ds_if (t_eq hr (nv 1) (PE.toB (de_lst (da_cons de_int (da_cons de_int (da_cons de_int (da_cons de_int da_nil)))))))
 (ds_one (ds_set (i := 2) sc__law_told.nd rfl (.inl rfl) (PE.fr de_int)))
 ds_nil)
 (ds_one (ds_ret (PE.fr (de_add (bTuple m_tuple (nb 1)) (PE.toB (de_tup (da_cons (nv 2) da_nil)))))))))), ?_⟩
  subst e0
  unfold Sm at se
  let G : Z4 → Int → Option Rv → Option Rv → Option Rv → Option Rv → Ge := fun y q a b c d => [some (.fro (nd x e)), some (.fro (l4 y)), some (.fro (.int q)), a, b, c, d]
  refine ⟨_, rfl, _, rfl, mulx_ok (a := 2) (b := 20) (by decide) (by omega) (by decide), ⟨Nat.le_of_ble_eq_true rfl, Nat.le_of_ble_eq_true rfl⟩, ?_⟩
  refine ⟨fun m Γ => ∃ y q a b c d, Γ = G y q a b c d ∧ Eqv x (2 * e) y q ∧ (∀ n, Bd n x → Bd n y) ∧ 0 ≤ q ∧ q ≤ 2 * e ∧ m = q.toNat, ⟨_, x, 2 * e, none, none, none, none, rfl, Eqv.refl _ _, fun _ h => h, by omega, by omega, rfl⟩, ?_⟩
  rintro m _ ⟨y, q, a, b, c, d, rfl, e1, b1, q1, q2, rfl⟩
  have ex : ∀ y' q', Canon y' q' → Eqv x (2 * e) y' q' → (∀ n, Bd n x → Bd n y') → q' ≤ 2 * e → k' (.fro (t5 y' q')) [.fro (nd x e)] := fun y' q' hc hv hb hl => h y' q' ⟨hc, hv, fun n hn => (hb n hn).mono (by omega), by omega⟩
  have two : (0 : Int) < 2 := by decide
  have fin : Canon y q → dSeq (dIfS (dTst (dOp dEq (dVar 1) (dB (dLst (dCons (dC (.int 0)) (dCons (dC (.int 0)) (dCons (dC (.int 0)) (dCons (dC (.int 0)) dNil)))))))) (dSet 2 (dF (dC (.int 0)))) dNext)
      (dRet (dF (dOp dAdd (dUn dTuple (dBor 1)) (dB (dTup (dCons (dVar 2) dNil))))))
      { nx := fun Γ => k' (.fro .none) (backOf [] [.fro (nd x e)] Γ), rt := fun ρ Γ => k' ρ (backOf [] [.fro (nd x e)] Γ) } (G y q a b c d) := by
    intro hc
    refine ⟨Nat.le_of_ble_eq_true rfl, ⟨rfl, rfl⟩, ?_⟩
    refine mB (fun hz => ?_) (fun _ => ?_)
    · have hy : y = zero := of_decide_eq_true ((eq_t4 y zero).symm.trans hz)
      subst hy
      exact ⟨Nat.le_of_ble_eq_true rfl, Nat.le_of_ble_eq_true rfl, Nat.le_of_ble_eq_true rfl, ex zero 0 ⟨Int.le_refl _, .inl rfl⟩ (e1.trans (eqv_zero _ _)) (fun n _ => bd_zero n) (by omega)⟩
    · exact ⟨Nat.le_of_ble_eq_true rfl, Nat.le_of_ble_eq_true rfl, ex y q hc e1 b1 q2⟩
  refine mB (b := decide (0 < q)) (fun hq => ?_) (fun hq => fin ⟨q1, .inl (by have := of_decide_eq_false hq; omega)⟩)
  have hq := of_decide_eq_true hq
  refine ⟨_, rfl, _, rfl, two, ⟨rfl, rfl⟩, ?_⟩
  refine mB (b := ((y.a + y.c) % 2 == 0)) (fun h1 => ?_) (fun h1 => fin ⟨q1, .inr fun hv => by rw [ev_iff] at hv; simp [hv.1] at h1⟩)
  refine ⟨_, rfl, _, rfl, two, ⟨rfl, rfl⟩, ?_⟩
  refine mB (b := ((y.b + y.d) % 2 == 0)) (fun h2 => ?_) (fun h2 => fin ⟨q1, .inr fun hv => by rw [ev_iff] at hv; simp [hv.2] at h2⟩)
  have hv : Ev y := ev_iff.mpr ⟨by simpa using h1, by simpa using h2⟩
  have cd : ∀ i : Int, CDivW i 2 := fun i => wide_div (b := 2) (by decide) (by decide) (by decide) (by decide)
  refine ⟨_, rfl, rfl, Nat.le_of_ble_eq_true rfl, Nat.le_of_ble_eq_true rfl, Nat.le_of_ble_eq_true rfl, Nat.le_of_ble_eq_true rfl, cd _, cd _, cd _, cd _, Nat.le_of_ble_eq_true rfl, ⟨Nat.le_of_ble_eq_true rfl, Nat.le_of_ble_eq_true rfl⟩, ?_⟩
  exact ⟨(q - 1).toNat, by omega, half (rt y), q - 1, _, _, _, _, rfl, e1.trans (eqv_half hv), fun n hn => bd_half (b1 n hn), by omega, by omega, rfl⟩
def rootx (n : Int) (x : Z4) : Z4 := rtn (if 0 < n then n else -n).toNat x
def roote (n e : Int) : Int := if 0 < n then e + n else e
theorem root_eqv (n e : Int) (x : Z4) : Eqv x (2 * e + n) (rootx n x) (2 * roote n e) := by
  unfold rootx roote
  by_cases h : 0 < n
  · rw [if_pos h, if_pos h]
    have := eqv_rtn n.toNat x (2 * e + n)
    rwa [show 2 * e + n + ((n.toNat : Nat) : Int) = 2 * (e + n) by omega] at this
  · rw [if_neg h, if_neg h]
    have := eqv_rtn (-n).toNat x (2 * e + n)
    rwa [show 2 * e + n + (((-n).toNat : Nat) : Int) = 2 * e by omega] at this
abbrev s__law_root : Stmt := top 34
 def sp__law_root : DSp := fun ρs k => ∃ x e n, ρs = [.fro (nd x e), .fro (.int n)] ∧ Bd 500000 x ∧ -1000 ≤ n ∧ n ≤ 1000 ∧ k (.fro (nd (rootx n x) (roote n e))) ρs
abbrev N__law_root : List Str := ["number", "power", "half", "k"]
theorem sc__law_root : FnScope N__law_root ["number", "power"] (defScope s__law_root) := ⟨rfl, rfl, rfl, by decide +kernel, rfl, by decide +kernel, by decide +kernel⟩
theorem ok__law_root (F : Fun K "_law_root" "_law_root" s__law_root f fd) (c__law_by : Cal P w K mg base T k "_law_by" ["one", "other"] sp__law_by) (m_abs : mg "abs" = none) (m_range : mg "range" = none) :
    FnOk P w K mg base CX0 (k + 1) f fd ["number", "power"] (spD K T sp__law_root) := by
  refine F.okD T sc__law_root [] (fun ρs k ⟨x, e, n, e0, bx, n1, n2, h⟩ => by subst e0; exact ⟨rfl, rfl⟩) fun cdv A outer s H E B ρs k' hcd0 hr ⟨x, e, n, e0, bx, n1, n2, h⟩ hB => ?_
  refine ⟨_, 
(ds_cons (ds_set (i := 2) sc__law_root.nd rfl (.inl rfl) (PE.fr (de_tup (da_cons (de_lst (da_cons de_int (da_cons de_int (da_cons de_int (da_cons (de_neg (PE.toB de_int)) da_nil))))) (da_cons de_int da_nil)))))
 (ds_cons (ds_for PassesOwn.never rfl (di_range1 rfl m_range (PE.toB (bAbs m_abs (nb 1)))) (dg_name sc__law_root.nd (i := 3) rfl (.inl rfl))
 (ds_one (ds_set (i := 0) sc__law_root.nd rfl (.inl rfl) (PE.fr (ce c__law_by hr (ar_cons (nv 0) (ar_cons (de_if (t_gt (nv 1) (PE.toB de_int)) (nv 2) (de_tup (da_cons (de_lst (da_cons de_int (da_cons de_int (da_cons de_int (da_cons (de_neg (PE.toB de_int)) da_nil))))) (da_cons de_int da_nil)))) ar_nil)))))))
 (ds_one (ds_ret (PE.fr (nv 0)))))), ?_⟩
  subst e0
  have mr : ∀ z : Z4, mul z ⟨0, 1, 0, -1⟩ = rt z := fun z => by ext <;> simp [mul, rt] <;> omega
  have bo : Bd 1000000 ⟨0, 1, 0, -1⟩ := Bd.mono (m := 1) ⟨by decide, by decide, by decide, by decide⟩ (by decide)
  obtain ⟨l, hl⟩ : ∃ l : Int, l = if n < 0 then -n else n := ⟨_, rfl⟩
  have l0 : 0 ≤ l ∧ l ≤ 1000 := by rw [hl]; split <;> omega
  let G : Z4 → Int → Option Rv → Ge := fun z g a => [some (.fro (nd z g)), some (.fro (.int n)), some (.fro (nd ⟨0, 1, 0, -1⟩ 1)), a]
  refine ⟨Nat.le_of_ble_eq_true rfl, Nat.le_of_ble_eq_true rfl, Nat.le_of_ble_eq_true rfl, ⟨by rw [← hl]; omega, by rw [← hl]; omega⟩, rfl, ?_⟩
  refine ⟨fun i Γ => ∃ a, Γ = G (rtn i x) (if 0 < n then e + i else e) a, ⟨none, ?_⟩, ?_, ?_⟩
  · have : (if 0 < n then e + ((0 : Nat) : Int) else e) = e := by split <;> omega
    rw [this]
    rfl
  · rintro i d _ hd ⟨a, rfl⟩
    have hi : i ≤ 1000 := by
      have := (rngD_get hd).1
      rw [← hl] at this
      omega
    have bz : Bd 1000000 (rtn i x) := (bd_rtn bx i).mono (by omega)
    refine ⟨Nat.le_of_ble_eq_true rfl, ?_⟩
    refine mB (b := decide (0 < n)) (fun hn => ?_) (fun hn => ?_)
    · have hn := of_decide_eq_true hn
      refine ⟨List.nodup_nil, rtn i x, _, ⟨0, 1, 0, -1⟩, 1, rfl, bz, bo, Nat.le_of_ble_eq_true rfl, some (.fro d), ?_⟩
      rw [mr, if_pos hn, if_pos hn, show e + ((i + 1 : Nat) : Int) = e + (i : Int) + 1 by omega]
      rfl
    · have hn := of_decide_eq_false hn
      refine ⟨Nat.le_of_ble_eq_true rfl, Nat.le_of_ble_eq_true rfl, List.nodup_nil, rtn i x, _, ⟨0, 1, 0, -1⟩, 0, rfl, bz, bo, Nat.le_of_ble_eq_true rfl, some (.fro d), ?_⟩
      rw [mr, if_neg hn, if_neg hn, show e + 0 = e by omega]
      rfl
  · rintro _ ⟨a, rfl⟩
    rw [rngD_len, ← hl]
    by_cases hn : 0 < n
    · rw [if_pos hn, show l.toNat = n.toNat by rw [hl, if_neg (by omega)], show ((n.toNat : Nat) : Int) = n by omega]
      unfold rootx roote at h
      rw [if_pos hn, if_pos hn] at h
      exact h
    · rw [if_neg hn, show l.toNat = (-n).toNat by rw [hl]; split <;> omega]
      unfold rootx roote at h
      rw [if_neg hn, if_neg hn] at h
      exact h
abbrev s__law_number : Stmt := top 32
 def sp__law_number : DSp := fun ρs k => ∃ a b ns, ρs = [st a b, .scr ns] ∧ SOk ns ∧ 0 ≤ a ∧ a ≤ 2 ^ 49 ∧ ∀ x e (a' b' : Int), Bd 30 x → 0 ≤ e → e ≤ 5 → a ≤ a' → a' ≤ a + 11 → k (.fro (nd x e)) [st a' b', .scr ns]
abbrev N__law_number : List Str := ["state", "script", "wide", "parts", "k"]
theorem sc__law_number : FnScope N__law_number ["state", "script"] (defScope s__law_number) := ⟨rfl, rfl, rfl, by decide +kernel, rfl, by decide +kernel, by decide +kernel⟩
theorem ok__law_number (F : Fun K "_law_number" "_law_number" s__law_number f fd) (c__law_draw : Cal P w K mg base T k "_law_draw" ["state", "script", "size"] sp__law_draw) (m_range : mg "range" = none) :
    FnOk P w K mg base CX0 (k + 1) f fd ["state", "script"] (spD K T sp__law_number) := by
  refine F.okD T sc__law_number [0] (fun ρs k ⟨a, b, ns, e0, so, a0, a1, h⟩ => by subst e0; exact ⟨rfl, rfl⟩) fun cdv A outer s H E B ρs k' hcd0 hr ⟨a, b, ns, e0, so, a0, a1, h⟩ hB => ?_
  refine ⟨_, 
(ds_cons (ds_set (i := 2) sc__law_number.nd rfl (.inr rfl) (PE.fr (de_ix (de_lst (da_cons de_int (da_cons de_int (da_cons de_int (da_cons (de_powC 1000000000 (by decide +kernel) ⟨by decide, by decide, by decide⟩) da_nil))))) (PE.toB (ce c__law_draw hr (ar_own (pv 0) (ar_own (pv 1) (ar_cons de_int ar_nil))))))))
 (ds_cons (ds_setLcF (i := 3) rfl sc__law_number.nd rfl rfl (sw_true rfl rfl rfl (by decide +kernel)) (di_range1 rfl m_range (PE.toB de_int)) (blkW N__law_number (defScope s__law_number) [("k", 4)] (by decide +kernel)) (fun B s H C cl fp => (dg_name sc__law_number.nd (i := 4) rfl (.inl rfl))) (fun B s H C cl fp => dts_nil) (fun B s H C cl fp => (de_mul (ce c__law_draw hr (ar_own (pv 0) (ar_own (pv 1) (ar_cons (nv 2) ar_nil)))) (PE.toB (de_sub de_int (PE.toB (de_mul de_int (PE.toB (ce c__law_draw hr (ar_own (pv 0) (ar_own (pv 1) (ar_cons de_int ar_nil))))))))))))
 (ds_one (ds_ret (PE.fr (de_tup (da_cons (nv 3) (da_cons (de_ix (de_lst (da_cons de_int (da_cons de_int (da_cons de_int (da_cons (ce c__law_draw hr (ar_own (pv 0) (ar_own (pv 1) (ar_cons de_int ar_nil)))) da_nil))))) (PE.toB (ce c__law_draw hr (ar_own (pv 0) (ar_own (pv 1) (ar_cons de_int ar_nil)))))) da_nil)))))))), ?_⟩
  subst e0
  have nd2 : ([0, 1] : List Nat).Nodup := by decide
  refine ⟨Nat.le_of_ble_eq_true rfl, nd2, a, b, ns, 4, rfl, so, a0, by omega, by decide, by decide, fun d a2 b2 d0 d1 h1 h2 => ?_⟩
  have hw : ∃ wd : Int, atI ([.int 2, .int 3, .int 12, .int 1000000000] : List D) d = some (.int wd) ∧ 0 < wd ∧ wd ≤ 1000000000 := by
    have : d = ((0 : Nat) : Int) ∨ d = ((1 : Nat) : Int) ∨ d = ((2 : Nat) : Int) ∨ d = ((3 : Nat) : Int) := by omega
    rcases this with rfl | rfl | rfl | rfl
    · exact ⟨2, rfl, by decide, by decide⟩
    · exact ⟨3, rfl, by decide, by decide⟩
    · exact ⟨12, rfl, by decide, by decide⟩
    · exact ⟨1000000000, rfl, by decide, by decide⟩
  obtain ⟨wd, ew, w0, w1⟩ := hw
  refine ⟨_, ew, Nat.le_of_ble_eq_true rfl, ⟨by show -(2 ^ 62) ≤ (4 : Int); decide, by show (4 : Int) < 2 ^ 62; decide⟩, ?_⟩
  refine ⟨fun j h => (by cases h), fun i acc Γ => ∃ (xs : List Int) (a3 b3 : Int), acc = xs.map PyData.int ∧ xs.length = i ∧ (∀ v ∈ xs, v.natAbs < 2 ^ 30) ∧ a ≤ a3 ∧ a3 ≤ a + 1 + 2 * i ∧ Γ = [some (st a3 b3), some (.scr ns), some (.fro (.int wd)), none, none], ⟨[], a2, b2, rfl, rfl, fun _ h => (by cases h), h1, by omega, rfl⟩, fun i acc Γ _ _ j h => (by cases h), ?_, ?_⟩
  · rintro i d _ _ hd ⟨xs, a3, b3, rfl, hl, hb, h3, h4, rfl⟩
    have hi := (rng4 hd).1
    refine ⟨by rw [List.length_map]; omega, Nat.le_of_ble_eq_true rfl, nd2, a3, b3, ns, wd, rfl, so, by omega, by omega, w0, by omega, fun v a4 b4 v0 v1 h5 h6 => ?_⟩
    refine ⟨nd2, a4, b4, ns, 2, rfl, so, by omega, by omega, by decide, by decide, fun v2 a5 b5 u0 u1 h7 h8 => ?_⟩
    refine ⟨mulx_ok (a := 2) (b := 2) (by decide) (by omega) (by decide), mulx_ok (a := 30) (b := 2) (by omega) (by show (1 - 2 * v2).natAbs < 2 ^ 2; omega) (by decide), ?_⟩
    refine ⟨xs ++ [v * (1 - 2 * v2)], a5, b5, by rw [List.map_append]; rfl, by rw [List.length_append, hl]; rfl, fun z hz => ?_, by omega, by omega, rfl⟩
    rcases List.mem_append.mp hz with hz | hz
    · exact hb z hz
    · rw [List.mem_singleton.mp hz]
      have : v2 = 0 ∨ v2 = 1 := by omega
      rcases this with rfl | rfl <;> omega
  · rintro _ _ ⟨xs, a3, b3, rfl, hl, hb, h3, h4, rfl⟩
    rw [show (rngD 0 1 (4 : Int).toNat).length = 4 from rfl] at hl h4
    obtain ⟨p, q, r, s, rfl⟩ : ∃ p q r s, xs = [p, q, r, s] := by
      match xs, hl with
      | [p, q, r, s], _ => exact ⟨p, q, r, s, rfl⟩
    refine ⟨Nat.le_of_ble_eq_true rfl, nd2, a3, b3, ns, 6, rfl, so, by omega, by omega, by decide, by decide, fun v a4 b4 v0 v1 h5 h6 => ?_⟩
    refine ⟨Nat.le_of_ble_eq_true rfl, nd2, a4, b4, ns, 4, rfl, so, by omega, by omega, by decide, by decide, fun v2 a5 b5 u0 u1 h7 h8 => ?_⟩
    have hw : ∃ e : Int, atI ([.int 0, .int 0, .int 1, .int v] : List D) v2 = some (.int e) ∧ 0 ≤ e ∧ e ≤ 5 := by
      have : v2 = ((0 : Nat) : Int) ∨ v2 = ((1 : Nat) : Int) ∨ v2 = ((2 : Nat) : Int) ∨ v2 = ((3 : Nat) : Int) := by omega
      rcases this with rfl | rfl | rfl | rfl
      · exact ⟨0, rfl, by decide, by decide⟩
      · exact ⟨0, rfl, by decide, by decide⟩
      · exact ⟨1, rfl, by decide, by decide⟩
      · exact ⟨v, rfl, v0, by omega⟩
    obtain ⟨e, ee, e0, e1⟩ := hw
    exact ⟨_, ee, Nat.le_of_ble_eq_true rfl, h ⟨p, q, r, s⟩ e a5 b5 ⟨hb p (by simp), hb q (by simp), hb r (by simp), hb s (by simp)⟩ e0 e1 (by omega) (by omega)⟩
/-- rows of numbers, n deep -/
def Pl : Nat → D → Prop
  | 0, _ => False
  | n + 1, d => (∃ i, d = .int i) ∨ ∃ ds, (d = .list ds ∨ d = .tuple ds) ∧ ds.length ≤ 1000 ∧ ∀ e ∈ ds, Pl n e
abbrev s__law_exact : Stmt := top 22
 def sp__law_exact (n : Nat) : DSp := fun ρs k => ∃ d, ρs = [.fro d, .fro d] ∧ Pl n d ∧ k (.fro (.bool true)) ρs
abbrev N__law_exact : List Str := ["first", "second", "alike", "k"]
theorem sc__law_exact : FnScope N__law_exact ["first", "second"] (defScope s__law_exact) := ⟨rfl, rfl, rfl, by decide +kernel, rfl, by decide +kernel, by decide +kernel⟩
theorem ok__law_exact {n : Nat} (F : Fun K "_law_exact" "_law_exact" s__law_exact f fd) (c__law_exact : Cal P w K mg base T k "_law_exact" ["first", "second"] (sp__law_exact n)) (m_all : mg "all" = none) (m_bool : mg "bool" = none) (m_int : mg "int" = none) (m_isinstance : mg "isinstance" = none) (m_len : mg "len" = none) (m_list : mg "list" = none) (m_range : mg "range" = none) (m_str : mg "str" = none) (m_tuple : mg "tuple" = none) :
    FnOk P w K mg base CX0 (k + 1) f fd ["first", "second"] (spD K T (sp__law_exact (n + 1))) := by
  refine F.okD T sc__law_exact [] (fun ρs k ⟨d, e, hp, h⟩ => by subst e; exact ⟨rfl, rfl⟩) fun cdv A outer s H E B ρs k' hcd0 hr ⟨d, e, hp, h⟩ hB => ?_
  refine ⟨_, 
(ds_cons (ds_if (tst (de_isi2 isT_list isT_tuple rfl m_isinstance rfl m_list boot_list rfl m_tuple boot_tuple (nb 0)))
 (ds_cons (ds_if (PW.pt (dw_or (t_ne hr (de_isi isT_list rfl m_isinstance rfl m_list boot_list (nb 0)) (PE.toB (de_isi isT_list rfl m_isinstance rfl m_list boot_list (nb 1)))) (dw_or1 (t_ne hr (de_isi isT_tuple rfl m_isinstance rfl m_tuple boot_tuple (nb 0)) (PE.toB (de_isi isT_tuple rfl m_isinstance rfl m_tuple boot_tuple (nb 1)))))))
 (ds_one (ds_ret (PE.fr de_bl)))
 ds_nil)
 (ds_one (ds_ret (PE.fr (de_and (c_eq hr (bLen m_len (nb 0)) (PE.toB (bLen m_len (nb 1)))) (de_one (bAll rfl m_all (PE.toB (de_lc rfl sc__law_exact.nd (di_range1 rfl m_range (PE.toB (bLen m_len (nb 0)))) (blkW N__law_exact (defScope s__law_exact) [("k", 3)] (by decide +kernel)) (fun B s H C cl fp => (dg_name sc__law_exact.nd (i := 3) rfl (.inl rfl))) (fun B s H C cl fp => dts_nil) (fun B s H C cl fp => (ce c__law_exact hr (ar_cons (de_ix (nv 0) (nb 3)) (ar_cons (de_ix (nv 1) (nb 3)) ar_nil)))))))))))))
 ds_nil)
 (ds_cons (ds_if (PW.pt (dw_or (t_is (nv 0) (PE.toB de_non)) (dw_or1 (t_is (nv 1) (PE.toB de_non)))))
 (ds_one (ds_ret (PE.fr (de_and (c_is (nv 0) (PE.toB de_non)) (de_one (c_is (nv 1) (PE.toB de_non)))))))
 ds_nil)
 (ds_cons (ds_set (i := 2) sc__law_exact.nd rfl (.inl rfl) (PE.fr (de_and (c_eq hr (de_isi isT_str rfl m_isinstance rfl m_str boot_str (nb 0)) (PE.toB (de_isi isT_str rfl m_isinstance rfl m_str boot_str (nb 1)))) (de_one (c_eq hr (de_isi isT_bool rfl m_isinstance rfl m_bool boot_bool (nb 0)) (PE.toB (de_isi isT_bool rfl m_isinstance rfl m_bool boot_bool (nb 1))))))))
 (ds_one (ds_ret (PE.fr (de_and (nv 2) (de_and (c_eq hr (de_isi isT_int rfl m_isinstance rfl m_int boot_int (nb 0)) (PE.toB (de_isi isT_int rfl m_isinstance rfl m_int boot_int (nb 1)))) (de_one (c_eq hr (nv 0) (nb 1))))))))))), ?_⟩
  subst e
  have items : ∀ m : Nat, rngD 0 1 ((m : Nat) : Int).toNat = (List.range m).map fun i => .int ((i : Nat) : Int) := fun m => by
    unfold rngD
    rw [Int.toNat_natCast]
    refine List.map_congr_left fun i _ => ?_
    congr 1
    omega
  have yes : ∀ m : Nat, (List.range m).filterMap (fun _ => some (PyData.bool true)) = ((List.range m).map fun _ => true).map PyData.bool := fun m => by
    show List.filterMap (some ∘ fun _ => PyData.bool true) _ = _
    rw [List.filterMap_eq_map, List.map_map]
    rfl
  have allT : ∀ m : Nat, ((List.range m).map fun _ => true).all id = true := fun m => by simp
  rcases hp with ⟨i, rfl⟩ | ⟨ds, hd, hl, hm⟩
  · refine ⟨⟨rfl, rfl⟩, ⟨rfl, rfl⟩, Nat.le_of_ble_eq_true rfl, ⟨rfl, rfl⟩, ⟨rfl, rfl⟩, ?_⟩
    have : (i == i) = true := by simp
    show k' (.fro (.bool (i == i))) _
    rw [this]
    exact h
  · have row : ∀ Γ : Ge, True := fun _ => trivial
    rcases hd with rfl | rfl
    · refine ⟨⟨rfl, rfl⟩, ⟨rfl, rfl⟩, ⟨rfl, rfl⟩, ?_⟩
      refine mB (fun _ => ?_) (fun hb => ?_)
      · refine ⟨⟨by omega, by omega⟩, ?_⟩
        refine lc_map (List.range ds.length) (fun i => .int ((i : Nat) : Int)) (fun _ => some (.bool true)) (items _) (by rw [List.length_range]; omega) (fun i hi yes no hh => ?_) ?_
        · have hi := List.mem_range.mp hi
          obtain ⟨e, he, hme⟩ := atI_mem (xs := ds) (i := (i : Int)) (by omega) (by omega)
          exact ⟨Nat.le_of_ble_eq_true rfl, e, he, e, he, List.nodup_nil, e, rfl, hm e hme, hh _ rfl⟩
        · refine ⟨_, by rw [yes]; exact bools_of _, ?_⟩
          show k' (.fro (.bool (List.all _ _))) _
          rw [allT]
          exact h
      · have : (((ds.length : Nat) : Int) == ((ds.length : Nat) : Int)) = false := hb
        simp at this
    · refine ⟨⟨rfl, rfl⟩, ⟨rfl, rfl⟩, ⟨rfl, rfl⟩, ?_⟩
      refine mB (fun _ => ?_) (fun hb => ?_)
      · refine ⟨⟨by omega, by omega⟩, ?_⟩
        refine lc_map (List.range ds.length) (fun i => .int ((i : Nat) : Int)) (fun _ => some (.bool true)) (items _) (by rw [List.length_range]; omega) (fun i hi yes no hh => ?_) ?_
        · have hi := List.mem_range.mp hi
          obtain ⟨e, he, hme⟩ := atI_mem (xs := ds) (i := (i : Int)) (by omega) (by omega)
          exact ⟨Nat.le_of_ble_eq_true rfl, e, he, e, he, List.nodup_nil, e, rfl, hm e hme, hh _ rfl⟩
        · refine ⟨_, by rw [yes]; exact bools_of _, ?_⟩
          show k' (.fro (.bool (List.all _ _))) _
          rw [allT]
          exact h
      · have : (((ds.length : Nat) : Int) == ((ds.length : Nat) : Int)) = false := hb
        simp at this
end
end K73
set_option Elab.async false
set_option linter.all false
set_option maxRecDepth 100000
set_option maxHeartbeats 4000000
namespace K73
open PySem PySem.Spec PyProof.Rows L2 Dn Zw
section
variable {P : Program} {w : World} {K : PySem.W.Frag} {mg : Str → Option Value} {base : Heap} {T : Addr → Prop} {f : Addr} {fd : FuncData} {c Pt : Addr} {k : Nat}
theorem pl_t5 (n : Nat) (y : Z4) (q : Int) : Pl (n + 2) (t5 y q) := by
  refine .inr ⟨_, .inr rfl, Nat.le_of_ble_eq_true rfl, fun e he => .inl ?_⟩
  simp only [List.mem_cons, List.not_mem_nil, or_false] at he
  rcases he with rfl | rfl | rfl | rfl | rfl <;> exact ⟨_, rfl⟩
theorem wp_inv (t : Int) : mul (wp t) (wp (0 - t)) = one := by
  have h : t % 8 = 0 ∨ t % 8 = 1 ∨ t % 8 = 2 ∨ t % 8 = 3 ∨ t % 8 = 4 ∨ t % 8 = 5 ∨ t % 8 = 6 ∨ t % 8 = 7 := by omega
  have tab : ∀ s : Int, (s % 8 = 0 → wp s = ⟨1, 0, 0, 0⟩) ∧ (s % 8 = 1 → wp s = ⟨0, 1, 0, 0⟩) ∧ (s % 8 = 2 → wp s = ⟨0, 0, 1, 0⟩) ∧ (s % 8 = 3 → wp s = ⟨0, 0, 0, 1⟩) ∧ (s % 8 = 4 → wp s = ⟨-1, 0, 0, 0⟩) ∧ (s % 8 = 5 → wp s = ⟨0, -1, 0, 0⟩) ∧ (s % 8 = 6 → wp s = ⟨0, 0, -1, 0⟩) ∧ (s % 8 = 7 → wp s = ⟨0, 0, 0, -1⟩) := by
    intro s
    refine ⟨?_, ?_, ?_, ?_, ?_, ?_, ?_, ?_⟩ <;> intro h
    · simp [wp, show s % 4 = 0 by omega, h]
    · simp [wp, show s % 4 = 1 by omega, h]
    · simp [wp, show s % 4 = 2 by omega, h]
    · simp [wp, show s % 4 = 3 by omega, h]
    · simp [wp, show s % 4 = 0 by omega, h]
    · simp [wp, show s % 4 = 1 by omega, h]
    · simp [wp, show s % 4 = 2 by omega, h]
    · simp [wp, show s % 4 = 3 by omega, h]
  obtain ⟨a0, a1, a2, a3, a4, a5, a6, a7⟩ := tab t
  obtain ⟨b0, b1, b2, b3, b4, b5, b6, b7⟩ := tab (0 - t)
  rcases h with h | h | h | h | h | h | h | h
  · rw [a0 h, b0 (by omega)]; rfl
  · rw [a1 h, b7 (by omega)]; rfl
  · rw [a2 h, b6 (by omega)]; rfl
  · rw [a3 h, b5 (by omega)]; rfl
  · rw [a4 h, b4 (by omega)]; rfl
  · rw [a5 h, b3 (by omega)]; rfl
  · rw [a6 h, b2 (by omega)]; rfl
  · rw [a7 h, b1 (by omega)]; rfl
theorem bd_wp (t : Int) : Bd 1 (wp t) := by
  unfold wp
  split <;> (refine ⟨?_, ?_, ?_, ?_⟩ <;> (try decide) <;> (split <;> decide))
theorem mul_one (x : Z4) : mul x one = x := by
  ext <;> simp [mul, one]
theorem plus_mul (x : Z4) (p : Int) (y : Z4) (q : Int) (z : Z4) (r : Int) : plus (mul x z) (p + r) (mul y z) (q + r) = mul (plus x p y q) z ∧ max (p + r) (q + r) = max p q + r := by
  refine ⟨?_, by omega⟩
  unfold plus
  rw [show (max (p + r) (q + r) - (p + r)).toNat = (max p q - p).toNat by omega, show (max (p + r) (q + r) - (q + r)).toNat = (max p q - q).toNat by omega, rtn_mul, rtn_mul, ← mul_add]
theorem plus_neg (x : Z4) (p : Int) : plus x p (neg x) p = zero := by
  unfold plus
  rw [show max p p - p = 0 by omega]
  ext <;> simp [rtn, Zw.add, neg, zero] <;> omega
/-- of canonical forms: what exact gives is one -/
theorem uniq {x y z : Z4} {p q r : Int} (h : IsEx x p y q) (c : Canon z r) (e : Eqv z r x p) : y = z ∧ q = r := canon_uniq h.can c (h.eqv.symm.trans e.symm)
end
end K73
set_option Elab.async false
set_option linter.all false
set_option maxRecDepth 100000
set_option maxHeartbeats 4000000
namespace K73
open PySem PySem.Spec PyProof.Rows L2 Dn Zw
section
variable {P : Program} {w : World} {K : PySem.W.Frag} {mg : Str → Option Value} {base : Heap} {T : Addr → Prop} {f : Addr} {fd : FuncData} {c Pt : Addr} {k : Nat}
/-! states: qubits, amplitudes by index -/
abbrev dI (ns : List Int) : D := .tuple (ns.map .int)
abbrev Am := Nat → Z4 × Int
abbrev am (n : Nat) (f : Am) : D := .tuple ((List.range n).map fun i => t5 (f i).1 (f i).2)
abbrev stD (qs : List Int) (f : Am) : D := .tuple [dI qs, am (2 ^ qs.length) f]
theorem ex_ex : ∀ (n : Nat) (x : Z4) (p : Int), p.toNat = n → ∃ r : Z4 × Int, IsEx x p r.1 r.2 := by
  intro n
  induction n with
  | zero =>
    intro x p hp
    refine ⟨(rtn (-p).toNat x, 0), ⟨Int.le_refl _, .inl rfl⟩, ?_, fun m hm => bd_rtn hm _, by show (0 : Int) ≤ _; omega⟩
    have := eqv_rtn (-p).toNat x p
    rwa [show p + (((-p).toNat : Nat) : Int) = 0 by omega] at this
  | succ n ih =>
    intro x p hp
    by_cases h : Ev x
    · obtain ⟨r, h1, h2, h3, h4⟩ := ih (half (rt x)) (p - 1) (by omega)
      exact ⟨r, h1, (eqv_half h).trans h2, fun m hm => (h3 m (bd_half hm)).mono (by omega), by omega⟩
    · exact ⟨(x, p), ⟨by show 0 ≤ p; omega, .inr h⟩, .refl _ _, fun m hm => hm.mono (by omega), by show p ≤ _; omega⟩
/-- the one form -/
noncomputable def exF (x : Z4) (p : Int) : Z4 × Int := (ex_ex _ x p rfl).choose
theorem exF_ex (x : Z4) (p : Int) : IsEx x p (exF x p).1 (exF x p).2 := (ex_ex _ x p rfl).choose_spec
theorem exF_eq {x : Z4} {p : Int} {y : Z4} {q : Int} (h : IsEx x p y q) : y = (exF x p).1 ∧ q = (exF x p).2 :=
  canon_uniq h.can (exF_ex x p).can (h.eqv.symm.trans (exF_ex x p).eqv)
/-- numbers that are not too great -/
def Gd (n : Nat) (f : Am) : Prop := ∀ i, i < n → Bd 900000 (f i).1 ∧ 0 ≤ (f i).2 ∧ (f i).2 ≤ 1000
theorem lo1000 {p : Int} (h : 0 ≤ p) (g : p ≤ 2000) : Lo p := ⟨Int.le_trans (by decide) h, Int.le_trans g (by decide)⟩
/-! bits -/
def bitN (i s : Nat) : Bool := i / 2 ^ s % 2 == 1
def flipN (i s : Nat) : Nat := if bitN i s then i - 2 ^ s else i + 2 ^ s
theorem bx_all : ∀ s : Nat, s < 4 → ∀ i : Nat, i < 16 → Builtin.bitXor (i : Int) (1 * 2 ^ ((s : Nat) : Int).toNat) = ((flipN i s : Nat) : Int) := by decide +kernel
theorem ba_all : ∀ s : Nat, s < 4 → ∀ i : Nat, i < 16 → (Builtin.bitAnd ((i : Int) / 2 ^ ((s : Nat) : Int).toNat) 1 != 0) = bitN i s := by decide +kernel
theorem bf_all : ∀ s : Nat, s < 4 → ∀ i : Nat, i < 16 → (Builtin.bitAnd (i : Int) (1 * 2 ^ ((s : Nat) : Int).toNat) != 0) = bitN i s := by decide +kernel
theorem flip_lt : ∀ m : Nat, m < 5 → ∀ s : Nat, s < m → ∀ i : Nat, i < 2 ^ m → flipN i s < 2 ^ m := by decide +kernel
theorem two16 {m : Nat} (h : m ≤ 4) : 2 ^ m ≤ 16 := Nat.le_trans (Nat.pow_le_pow_right (by decide) h) (by decide)
theorem rngOk {M : Nat} (h : M ≤ 16) : -(2 ^ 62) ≤ (M : Int) ∧ (M : Int) < 2 ^ 62 := by omega
/-- a qubit's shift -/
def sh (qs : List Int) (q : Int) : Nat := qs.length - 1 - qs.idxOf q
theorem sh_lt {qs : List Int} {q : Int} (h : q ∈ qs) : sh qs q < qs.length := by
  have := List.idxOf_lt_length_iff.mpr h
  unfold sh; omega
theorem sh_int {qs : List Int} {q : Int} (h : q ∈ qs) : (((qs.map PyData.int).length : Nat) : Int) - 1 - (qs.idxOf q : Nat) = ((sh qs q : Nat) : Int) := by
  have := List.idxOf_lt_length_iff.mpr h
  rw [List.length_map]
  unfold sh; omega
theorem shl1 {s : Nat} (h : s < 4) : CShl 1 (s : Int) := shl_ok (n := 1) (by decide) (by omega)
abbrev s_shift_of : Stmt := top 13
 def sp_shift_of : DSp := fun ρs k => ∃ qs g q, ρs = [.fro (stD qs g), .fro (.int q)] ∧ q ∈ qs ∧ k (.fro (.int ((sh qs q : Nat) : Int))) ρs
abbrev N_shift_of : List Str := ["state", "qubit"]
theorem sc_shift_of : FnScope N_shift_of ["state", "qubit"] (defScope s_shift_of) := ⟨rfl, rfl, rfl, by decide +kernel, rfl, by decide +kernel, by decide +kernel⟩
theorem ok_shift_of (F : Fun K "shift_of" "shift_of" s_shift_of f fd) (m_len : mg "len" = none) :
    FnOk P w K mg base CX0 (k + 1) f fd ["state", "qubit"] (spD K T sp_shift_of) := by
  refine F.okD T sc_shift_of [] (fun ρs k ⟨qs, g, q, e, hq, h⟩ => by subst e; exact ⟨rfl, rfl⟩) fun cdv A outer s H E B ρs k' hcd0 hr ⟨qs, g, q, e, hq, h⟩ hB => ?_
  refine ⟨_, 
(ds_one (ds_ret (PE.fr (de_sub (de_sub (bLen m_len (PE.toB (de_ix (nv 0) (PE.toB de_int)))) (PE.toB de_int)) (PE.toB (de_tidx (de_ix (nv 0) (PE.toB de_int)) (nv 1))))))), ?_⟩
  subst e
  refine ⟨_, rfl, _, rfl, rfl, qs, intsD_of qs, hq, ?_⟩
  rw [← sh_int hq] at h
  exact h
abbrev s_pauli_x : Stmt := top 14
 def sp_pauli_x : DSp := fun ρs k => ∃ qs g q, ρs = [.fro (stD qs g), .fro (.int q)] ∧ q ∈ qs ∧ qs.length ≤ 4 ∧ k (.fro (stD qs fun i => g (flipN i (sh qs q)))) ρs
abbrev N_pauli_x : List Str := ["state", "qubit", "flip", "index"]
theorem sc_pauli_x : FnScope N_pauli_x ["state", "qubit"] (defScope s_pauli_x) := ⟨rfl, rfl, rfl, by decide +kernel, rfl, by decide +kernel, by decide +kernel⟩
theorem ok_pauli_x (F : Fun K "pauli_x" "pauli_x" s_pauli_x f fd) (c_shift_of : Cal P w K mg base T k "shift_of" ["state", "qubit"] sp_shift_of) (m_len : mg "len" = none) (m_range : mg "range" = none) (m_tuple : mg "tuple" = none) :
    FnOk P w K mg base CX0 (k + 1) f fd ["state", "qubit"] (spD K T sp_pauli_x) := by
  refine F.okD T sc_pauli_x [] (fun ρs k ⟨qs, g, q, e, hq, hl, h⟩ => by subst e; exact ⟨rfl, rfl⟩) fun cdv A outer s H E B ρs k' hcd0 hr ⟨qs, g, q, e, hq, hl, h⟩ hB => ?_
  refine ⟨_, 
(ds_cons (ds_set (i := 2) sc_pauli_x.nd rfl (.inr rfl) (PE.fr (de_shl de_int (PE.toB (ce c_shift_of hr (ar_cons (nv 0) (ar_cons (nv 1) ar_nil)))))))
 (ds_one (ds_ret (PE.fr (de_tup (da_cons (de_ix (nv 0) (PE.toB de_int)) (da_cons (bTuple m_tuple (PE.toB (de_lc rfl sc_pauli_x.nd (di_range1 rfl m_range (PE.toB (bLen m_len (PE.toB (de_ix (nv 0) (PE.toB de_int)))))) (blkW N_pauli_x (defScope s_pauli_x) [("index", 3)] (by decide +kernel)) (fun B s H C cl fp => (dg_name sc_pauli_x.nd (i := 3) rfl (.inl rfl))) (fun B s H C cl fp => dts_nil) (fun B s H C cl fp => (de_ix (de_ix (nv 0) (PE.toB de_int)) (PE.toB (de_bxor (nv 3) (nb 2)))))))) da_nil))))))), ?_⟩
  subst e
  have s1 := sh_lt hq
  have s4 : sh qs q < 4 := by omega
  have t16 := two16 hl
  refine ⟨List.nodup_nil, qs, g, q, rfl, hq, shl1 s4, Nat.le_of_ble_eq_true rfl, ?_⟩
  refine ⟨_, rfl, _, rfl, ?_⟩
  show _ ∧ LcGoal _ _ _ _ _ _ _ _
  rw [rng_len, rngD_nat]
  refine ⟨rngOk t16, ?_⟩
  refine lc_all (List.range (2 ^ qs.length)) _ (fun i => t5 (g (flipN i (sh qs q))).1 (g (flipN i (sh qs q))).2) rfl (by rw [List.length_range]; omega) (fun i hi yes no hh => ?_) ?_
  · have hi := rng_mem hi
    exact ⟨Nat.le_of_ble_eq_true rfl, _, rfl, _, rng_at (bx_all _ s4 _ (by omega)) (flip_lt _ (by omega) _ s1 _ hi), hh _ rfl⟩
  · exact ⟨Nat.le_of_ble_eq_true rfl, h⟩
noncomputable def turnF (qs : List Int) (q t : Int) (g : Am) : Am := fun i => if bitN i (sh qs q) then exF (mul (wp t) (g i).1) (0 + (g i).2) else g i
abbrev s_turn : Stmt := top 15
 def sp_turn : DSp := fun ρs k => ∃ qs g q t, ρs = [.fro (stD qs g), .fro (.int q), .fro (.int t)] ∧ q ∈ qs ∧ qs.length ≤ 4 ∧ Gd (2 ^ qs.length) g ∧ k (.fro (stD qs (turnF qs q t g))) ρs
abbrev N_turn : List Str := ["state", "qubit", "turns", "shift", "factor", "told", "index", "number"]
theorem sc_turn : FnScope N_turn ["state", "qubit", "turns"] (defScope s_turn) := ⟨rfl, rfl, rfl, by decide +kernel, rfl, by decide +kernel, by decide +kernel⟩
theorem ok_turn (F : Fun K "turn" "turn" s_turn f fd) (c_shift_of : Cal P w K mg base T k "shift_of" ["state", "qubit"] sp_shift_of) (c_unit : Cal P w K mg base T k "unit" ["turns"] sp_unit) (c_times : Cal P w K mg base T k "times" ["one", "other"] sp_times) (m_enumerate : mg "enumerate" = none) (m_tuple : mg "tuple" = none) :
    FnOk P w K mg base CX0 (k + 1) f fd ["state", "qubit", "turns"] (spD K T sp_turn) := by
  refine F.okD T sc_turn [] (fun ρs k ⟨qs, g, q, t, e, hq, hl, hg, h⟩ => by subst e; exact ⟨rfl, rfl⟩) fun cdv A outer s H E B ρs k' hcd0 hr ⟨qs, g, q, t, e, hq, hl, hg, h⟩ hB => ?_
  refine ⟨_, 
(ds_cons (ds_set (i := 3) sc_turn.nd rfl (.inl rfl) (PE.fr (ce c_shift_of hr (ar_cons (nv 0) (ar_cons (nv 1) ar_nil)))))
 (ds_cons (ds_set (i := 4) sc_turn.nd rfl (.inl rfl) (PE.fr (ce c_unit hr (ar_cons (nv 2) ar_nil))))
 (ds_cons (ds_set (i := 5) sc_turn.nd rfl (.inl rfl) (de_lst da_nil))
 (ds_cons (ds_for PassesOwn.never rfl (di_enum rfl m_enumerate (de_ix (nv 0) (PE.toB de_int))) (dg_row (n := 2) rfl (dgs_cons (dg_name sc_turn.nd (i := 6) rfl (.inl rfl)) (dgs_cons (dg_name sc_turn.nd (i := 7) rfl (.inl rfl)) dgs_nil)))
 (ds_one (ds_expr (de_append (pv 5) (de_if (tst (de_band (de_shr (nv 6) (nb 3)) (PE.toB de_int))) (ce c_times hr (ar_cons (nv 4) (ar_cons (nv 7) ar_nil))) (nv 7))))))
 (ds_one (ds_ret (PE.fr (de_tup (da_cons (de_ix (nv 0) (PE.toB de_int)) (da_cons (bTuple m_tuple (nb 5)) da_nil)))))))))), ?_⟩
  subst e
  have s1 := sh_lt hq
  have s4 : sh qs q < 4 := by omega
  have t16 := two16 hl
  refine ⟨List.nodup_nil, qs, g, q, rfl, hq, Nat.le_of_ble_eq_true rfl, ?_⟩
  refine ⟨List.nodup_nil, t, rfl, Nat.le_of_ble_eq_true rfl, ?_⟩
  refine ⟨Nat.le_of_ble_eq_true rfl, Nat.le_of_ble_eq_true rfl, _, rfl, _, rfl, rfl, ?_⟩
  let G : Nat → Option Rv → Option Rv → Ge := fun i a b => [some (.fro (stD qs g)), some (.fro (.int q)), some (.fro (.int t)), some (.fro (.int ((sh qs q : Nat) : Int))), some (.fro (t5 (wp t) 0)), some (.lst ((List.range i).map fun i => t5 (turnF qs q t g i).1 (turnF qs q t g i).2)), a, b]
  refine ⟨fun i Γ => ∃ a b, Γ = G i a b, ⟨none, none, rfl⟩, ?_, ?_⟩
  · rintro i d _ hd ⟨a, b, rfl⟩
    obtain ⟨hi, rfl⟩ := rng_en hd
    obtain ⟨b1, p1, p2⟩ := hg i hi
    have fin : ∀ d, d = t5 (turnF qs q t g i).1 (turnF qs q t g i).2 → ∃ a b, ([some (.fro (stD qs g)), some (.fro (.int q)), some (.fro (.int t)), some (.fro (.int ((sh qs q : Nat) : Int))), some (.fro (t5 (wp t) 0)), some (.lst (((List.range i).map fun i => t5 (turnF qs q t g i).1 (turnF qs q t g i).2) ++ [d])), some (.fro (.int (i : Nat))), some (.fro (t5 (g i).1 (g i).2))] : Ge) = G (i + 1) a b := by
      rintro d rfl
      exact ⟨_, _, by first | (rw [← rng_snoc]; done) | (rw [← rng_snoc]; rfl)⟩
    refine ⟨_, rfl, rfl, Nat.le_of_ble_eq_true rfl, Nat.le_of_ble_eq_true rfl, by show (0 : Int) ≤ ((sh qs q : Nat) : Int); omega, ?_⟩
    refine mB (fun hb => ?_) (fun hb => ?_)
    · rw [ba_all _ s4 _ (by omega)] at hb
      refine ⟨List.nodup_nil, wp t, 0, (g i).1, (g i).2, rfl, (bd_wp t).mono (by omega), b1.mono (by omega), fun z r hz => ?_⟩
      obtain ⟨rfl, rfl⟩ := exF_eq hz
      exact ⟨by rw [rng_len]; omega, fin _ (by unfold turnF; rw [if_pos hb])⟩
    · rw [ba_all _ s4 _ (by omega)] at hb
      exact ⟨by rw [rng_len]; omega, fin _ (by unfold turnF; rw [hb]; rfl)⟩
  · rintro _ ⟨a, b, rfl⟩
    rw [enumD_len, rng_len]
    exact ⟨_, rfl, Nat.le_of_ble_eq_true rfl, h⟩
abbrev s_pauli_z : Stmt := top 16
 def sp_pauli_z : DSp := fun ρs k => ∃ qs g q, ρs = [.fro (stD qs g), .fro (.int q)] ∧ q ∈ qs ∧ qs.length ≤ 4 ∧ Gd (2 ^ qs.length) g ∧ k (.fro (stD qs (turnF qs q 4 g))) ρs
abbrev N_pauli_z : List Str := ["state", "qubit"]
theorem sc_pauli_z : FnScope N_pauli_z ["state", "qubit"] (defScope s_pauli_z) := ⟨rfl, rfl, rfl, by decide +kernel, rfl, by decide +kernel, by decide +kernel⟩
theorem ok_pauli_z (F : Fun K "pauli_z" "pauli_z" s_pauli_z f fd) (c_turn : Cal P w K mg base T k "turn" ["state", "qubit", "turns"] sp_turn) :
    FnOk P w K mg base CX0 (k + 1) f fd ["state", "qubit"] (spD K T sp_pauli_z) := by
  refine F.okD T sc_pauli_z [] (fun ρs k ⟨qs, g, q, e, hq, hl, hg, h⟩ => by subst e; exact ⟨rfl, rfl⟩) fun cdv A outer s H E B ρs k' hcd0 hr ⟨qs, g, q, e, hq, hl, hg, h⟩ hB => ?_
  refine ⟨_, 
(ds_one (ds_ret (PE.fr (ce c_turn hr (ar_cons (nv 0) (ar_cons (nv 1) (ar_cons de_int ar_nil))))))), ?_⟩
  subst e
  exact ⟨List.nodup_nil, qs, g, q, 4, rfl, hq, hl, hg, h⟩
noncomputable def addP (u v : Z4 × Int) : Z4 × Int := exF (plus u.1 u.2 v.1 v.2) (max u.2 v.2)
def negP (u : Z4 × Int) : Z4 × Int := (neg u.1, u.2)
noncomputable def hadF (qs : List Int) (q : Int) (g : Am) : Am := fun i =>
  let j := flipN i (sh qs q)
  let a := if bitN i (sh qs q) then addP (g j) (negP (g i)) else addP (g i) (g j)
  exF a.1 (a.2 + 1)
end
end K73
set_option Elab.async false
set_option linter.all false
set_option maxRecDepth 100000
set_option maxHeartbeats 4000000
namespace K73
open PySem PySem.Spec PyProof.Rows L2 Dn Zw
section
variable {P : Program} {w : World} {K : PySem.W.Frag} {mg : Str → Option Value} {base : Heap} {T : Addr → Prop} {f : Addr} {fd : FuncData} {c Pt : Addr} {k : Nat}
theorem gd_turn {n : Nat} {qs : List Int} {q t : Int} {g : Am} {b : Nat} (h : ∀ i, i < n → Bd b (g i).1 ∧ 0 ≤ (g i).2 ∧ (g i).2 ≤ 1000) : ∀ i, i < n → Bd (b + 3) (turnF qs q t g i).1 ∧ 0 ≤ (turnF qs q t g i).2 ∧ (turnF qs q t g i).2 ≤ 1000 := fun i hi => by
  obtain ⟨h1, h2, h3⟩ := h i hi
  unfold turnF
  split
  · have e := exF_ex (mul (wp t) (g i).1) (0 + (g i).2)
    refine ⟨(e.bd _ (bd_mul (bd_wp t) h1)).mono (by omega), e.can.1, ?_⟩
    have := e.top
    omega
  · exact ⟨h1.mono (by omega), h2, h3⟩
def entF (qs : List Int) (a b : Int) (g : Am) : Am := fun i => if bitN i (sh qs a) && bitN i (sh qs b) then negP (g i) else g i
/-- the qubits with a new one -/
def insQ (qs : List Int) (q : Int) : List Int := srtI (qs ++ [q])
theorem insQ_len (qs : List Int) (q : Int) : (insQ qs q).length = qs.length + 1 := by unfold insQ; rw [srtI_len]; simp
theorem insQ_mem (qs : List Int) (q : Int) : q ∈ insQ qs q := srtI_mem.mpr (by simp)
/-- the place without the figure at s -/
def oldN (i s : Nat) : Nat := i / 2 ^ (s + 1) * 2 ^ s + i % 2 ^ s
theorem old_all : ∀ s : Nat, s < 4 → ∀ i : Nat, i < 16 → (i : Int) / 2 ^ (((s : Nat) : Int) + 1).toNat * 2 ^ ((s : Nat) : Int).toNat + (i : Int) % (1 * 2 ^ ((s : Nat) : Int).toNat) = ((oldN i s : Nat) : Int) := by decide +kernel
theorem shr_all : ∀ s : Nat, s < 4 → ∀ i : Nat, i < 16 → ((i : Int) / 2 ^ (((s : Nat) : Int) + 1).toNat).natAbs < 2 ^ 4 := by decide +kernel
theorem pos_all : ∀ s : Nat, s < 4 → (0 : Int) < 1 * 2 ^ ((s : Nat) : Int).toNat := by decide +kernel
theorem old_lt : ∀ m : Nat, m < 4 → ∀ s : Nat, s < m + 1 → ∀ i : Nat, i < 2 ^ (m + 1) → oldN i s < 2 ^ m := by decide +kernel
noncomputable def prepF (qs : List Int) (q : Int) (g : Am) : Am := fun i => exF (g (oldN i (sh (insQ qs q) q))).1 ((g (oldN i (sh (insQ qs q) q))).2 + 1)
end
end K73
set_option Elab.async false
set_option linter.all false
set_option maxRecDepth 100000
set_option maxHeartbeats 4000000
namespace K73
open PySem PySem.Spec PyProof.Rows L2 Dn Zw
section
variable {P : Program} {w : World} {K : PySem.W.Frag} {mg : Str → Option Value} {base : Heap} {T : Addr → Prop} {f : Addr} {fd : FuncData} {c Pt : Addr} {k : Nat}
/-! rows of figures -/
def figs : Nat → List (List Int)
  | 0 => [[]]
  | n + 1 => (figs n).flatMap fun r => [r ++ [0], r ++ [1]]
def fig (m i : Nat) : List Int := (figs m).getD i []
theorem figs_len : ∀ m : Nat, m < 5 → (figs m).length = 2 ^ m := by decide +kernel
theorem figs_eq : ∀ m : Nat, m < 5 → figs m = (List.range (2 ^ m)).map (fig m) := by decide +kernel
theorem fig_len : ∀ m : Nat, m < 5 → ∀ i : Nat, i < 2 ^ m → (fig m i).length = m := by decide +kernel
theorem fig_ne : ∀ m : Nat, m < 5 → ∀ j : Nat, j < 2 ^ m → ∀ i : Nat, i < j → fig m i ≠ fig m j := by decide +kernel
theorem dI_inj {r s : List Int} (h : dI r = dI s) : r = s := by
  have h : r.map PyData.int = s.map PyData.int := by injection h
  exact List.map_inj_right (fun a b e => by injection e) |>.mp h
theorem key_dI (r : List Int) : ∃ k, keyOf (dI r) = some k ∧ k.depth ≤ 8 := by
  have : keysOf (r.map .int) = some (r.map NestedKey.num) := by
    induction r with
    | nil => rfl
    | cons a r ih => show (keyOf (.int a)).bind (fun k => (keysOf (r.map .int)).map (k :: ·)) = _; rw [ih]; rfl
  refine ⟨NestedKey.tup (r.map NestedKey.num), by show (keysOf (r.map .int)).map NestedKey.tup = _; rw [this]; rfl, ?_⟩
  have d0 : NestedKey.depthAll (r.map NestedKey.num) = 0 := by
    clear this
    induction r with
    | nil => rfl
    | cons a r ih => show max 0 (NestedKey.depthAll (r.map NestedKey.num)) = 0; rw [ih]; rfl
  show NestedKey.depthAll (r.map NestedKey.num) + 1 ≤ 8
  omega
abbrev rowsD (m : Nat) : List D := (figs m).map dI
abbrev s__law_figures : Stmt := top 35
 def sp__law_figures : DSp := fun ρs k => ∃ m : Nat, ρs = [.fro (.int ((m : Nat) : Int))] ∧ m ≤ 4 ∧ k (.fro (.list (rowsD m))) ρs
abbrev N__law_figures : List Str := ["many", "rows", "k", "longer", "row"]
theorem sc__law_figures : FnScope N__law_figures ["many"] (defScope s__law_figures) := ⟨rfl, rfl, rfl, by decide +kernel, rfl, by decide +kernel, by decide +kernel⟩
theorem ok__law_figures (F : Fun K "_law_figures" "_law_figures" s__law_figures f fd) (m_range : mg "range" = none) :
    FnOk P w K mg base CX0 (k + 1) f fd ["many"] (spD K T sp__law_figures) := by
  refine F.okD T sc__law_figures [] (fun ρs k ⟨m, e, hm, h⟩ => by subst e; exact ⟨rfl, rfl⟩) fun cdv A outer s H E B ρs k' hcd0 hr ⟨m, e, hm, h⟩ hB => ?_
  refine ⟨_, 
(ds_cons (ds_set (i := 1) sc__law_figures.nd rfl (.inl rfl) (PE.fr (de_lst (da_cons (de_tup da_nil) da_nil))))
 (ds_cons (ds_for PassesOwn.never rfl (di_range1 rfl m_range (nb 0)) (dg_name sc__law_figures.nd (i := 2) rfl (.inl rfl))
 (ds_cons (ds_set (i := 3) sc__law_figures.nd rfl (.inl rfl) (PE.fr (de_lst da_nil)))
 (ds_cons (ds_for PassesOwn.never rfl (di_row (nv 1)) (dg_name sc__law_figures.nd (i := 4) rfl (.inl rfl))
 (ds_one (ds_set (i := 3) sc__law_figures.nd rfl (.inl rfl) (PE.fr (de_add (nv 3) (PE.toB (de_lst (da_cons (de_add (nv 4) (PE.toB (de_tup (da_cons de_int da_nil)))) (da_cons (de_add (nv 4) (PE.toB (de_tup (da_cons de_int da_nil)))) da_nil)))))))))
 (ds_one (ds_set (i := 1) sc__law_figures.nd rfl (.inl rfl) (PE.fr (nv 3)))))))
 (ds_one (ds_ret (PE.fr (nv 1)))))), ?_⟩
  subst e
  refine ⟨Nat.le_of_ble_eq_true rfl, Nat.le_of_ble_eq_true rfl, Nat.le_of_ble_eq_true rfl, ?_⟩
  show (_ ∧ _) ∧ _ ∧ (∃ I : Nat → Ge → Prop, _)
  rw [rngD_nat]
  refine ⟨⟨by omega, by omega⟩, rfl, ?_⟩
  let G : Nat → Option Rv → Option Rv → Option Rv → Ge := fun i a b c => [some (.fro (.int ((m : Nat) : Int))), some (.fro (.list (rowsD i))), a, b, c]
  refine ⟨fun i Γ => ∃ a b c, Γ = G i a b c, ⟨none, none, none, rfl⟩, ?_, ?_⟩
  · rintro i d _ hd ⟨a, b, c, rfl⟩
    obtain ⟨hi, rfl⟩ := rng_mget hd
    have fl : (figs i).length ≤ 16 := by rw [figs_len i (by omega)]; exact two16 (by omega)
    refine ⟨Nat.le_of_ble_eq_true rfl, Nat.le_of_ble_eq_true rfl, Nat.le_of_ble_eq_true rfl, ?_⟩
    refine ⟨_, rfl, rfl, ?_⟩
    refine ⟨fun j Γ => ∃ c, Γ = [some (.fro (.int ((m : Nat) : Int))), some (.fro (.list (rowsD i))), some (.fro (.int ((i : Nat) : Int))), some (.fro (.list ((((figs i).take j).flatMap fun r => [r ++ [0], r ++ [1]]).map dI))), c], ⟨c, rfl⟩, ?_, ?_⟩
    · rintro j d _ hj ⟨c, rfl⟩
      obtain ⟨r, hr, rfl⟩ := map_get hj
      have hjl := getElem?_len hr
      have rl : r.length = i := by
        have e1 : fig i j = r := by unfold fig; rw [List.getD_eq_getElem?_getD, hr]; rfl
        rw [← e1]
        exact fig_len i (by omega) j (by rw [← figs_len i (by omega)]; exact hjl)
      have tl : ((((figs i).take j).flatMap fun r => [r ++ [0], r ++ [1]]).map dI).length ≤ 100 := by
        rw [List.length_map, List.length_flatMap]
        have : (List.map (fun a : List Int => [a ++ [0], a ++ [1]].length) ((figs i).take j)).sum = 2 * ((figs i).take j).length := by
          generalize (figs i).take j = l
          induction l with
          | nil => rfl
          | cons a l ih => simp at ih ⊢; omega
        rw [this, List.length_take]
        omega
      have sz : r.length + 1 ≤ sizeLine := by rw [sizeLine_eq]; omega
      refine ⟨Nat.le_of_ble_eq_true rfl, Nat.le_of_ble_eq_true rfl, by rw [List.length_map]; exact sz, Nat.le_of_ble_eq_true rfl, by rw [List.length_map]; exact sz, Nat.le_of_ble_eq_true rfl, by rw [sizeLine_eq]; exact Nat.le_trans (Nat.add_le_add_right tl 2) (by decide), Nat.le_of_ble_eq_true rfl, ?_⟩
      refine ⟨some (.fro (dI r)), ?_⟩
      have e : (((figs i).take (j + 1)).flatMap fun r => [r ++ [0], r ++ [1]]).map dI = ((((figs i).take j).flatMap fun r => [r ++ [0], r ++ [1]]).map dI) ++ [.tuple (r.map .int ++ [.int 0]), .tuple (r.map .int ++ [.int 1])] := by
        rw [List.take_succ, hr]
        simp [List.flatMap_append]
      rw [e]
      rfl
    · rintro _ ⟨c, rfl⟩
      rw [List.length_map, List.take_length]
      exact ⟨Nat.le_of_ble_eq_true rfl, _, _, _, rfl⟩
  · rintro _ ⟨a, b, c, rfl⟩
    rw [rng_len]
    exact h
abbrev nuD (p : Z4 × Int) : D := nd p.1 p.2
def fkv (m : Nat) (ns : Am) (j : Nat) : List (D × D) := (List.range j).map fun i => (dI (fig m i), nuD (ns i))
abbrev fiD (qs : List Int) (ns : Am) : D := .tuple [dI qs, .dict (fkv qs.length ns (2 ^ qs.length))]
theorem fkv_get {m j i : Nat} {ns : Am} (h : i < j) : (fkv m ns j)[i]? = some (dI (fig m i), nuD (ns i)) := rng_get h
theorem fkv_len {m j : Nat} {ns : Am} : (fkv m ns j).length = j := by simp [fkv]
theorem fkv_snoc {m j : Nat} {ns : Am} : fkv m ns (j + 1) = fkv m ns j ++ [(dI (fig m j), nuD (ns j))] := rng_snoc
theorem fkv_new {m j : Nat} {ns : Am} (hm : m < 5) (hj : j < 2 ^ m) : dI (fig m j) ∉ (fkv m ns j).map (·.1) := fun h => by
  obtain ⟨p, hp, e⟩ := List.mem_map.mp h
  obtain ⟨i, hi, rfl⟩ := List.mem_map.mp hp
  exact fig_ne m hm j hj i (List.mem_range.mp hi) (dI_inj e)
/-- a new entry -/
theorem fkv_put {m j : Nat} {ns : Am} {d : D} {k : List (D × D) → Prop} (hm : m < 5) (hj : j < 2 ^ m) (hd : d = nuD (ns j)) (h : k (fkv m ns (j + 1))) : isTupD (dI (fig m j)) = true ∧ (∃ q, keyOf (dI (fig m j)) = some q ∧ q.depth ≤ 8) ∧ putD (fkv m ns j) (dI (fig m j)) d k := by
  subst hd
  have := two16 (show m ≤ 4 by omega)
  refine ⟨rfl, key_dI _, by rw [fkv_len]; omega, .inr ⟨fkv_new hm hj, ?_⟩⟩
  rw [← fkv_snoc]; exact h
abbrev s__law_field : Stmt := top 36
 def sp__law_field : DSp := fun ρs k => ∃ (qs : List Int) (ns : Am), ρs = [.fro (dI qs), .fro (.list ((List.range (2 ^ qs.length)).map fun i => nuD (ns i)))] ∧ qs.length ≤ 4 ∧ k (.fro (fiD qs ns)) ρs
abbrev N__law_field : List Str := ["qubits", "amplitudes", "rows", "numbers", "k"]
theorem sc__law_field : FnScope N__law_field ["qubits", "amplitudes"] (defScope s__law_field) := ⟨rfl, rfl, rfl, by decide +kernel, rfl, by decide +kernel, by decide +kernel⟩
theorem ok__law_field (F : Fun K "_law_field" "_law_field" s__law_field f fd) (c__law_figures : Cal P w K mg base T k "_law_figures" ["many"] sp__law_figures) (m_len : mg "len" = none) (m_range : mg "range" = none) (m_tuple : mg "tuple" = none) :
    FnOk P w K mg base CX0 (k + 1) f fd ["qubits", "amplitudes"] (spD K T sp__law_field) := by
  refine F.okD T sc__law_field [] (fun ρs k ⟨qs, ns, e, hm, h⟩ => by subst e; exact ⟨rfl, rfl⟩) fun cdv A outer s H E B ρs k' hcd0 hr ⟨qs, ns, e, hm, h⟩ hB => ?_
  refine ⟨_, 
(ds_cons (ds_set (i := 2) sc__law_field.nd rfl (.inl rfl) (PE.fr (ce c__law_figures hr (ar_cons (bLen m_len (nb 0)) ar_nil))))
 (ds_cons (ds_set (i := 3) sc__law_field.nd rfl (.inl rfl) de_newT)
 (ds_cons (ds_for PassesOwn.never rfl (di_range1 rfl m_range (PE.toB (bLen m_len (nb 2)))) (dg_name sc__law_field.nd (i := 4) rfl (.inl rfl))
 (ds_one (ds_put hr (pv 3) (de_ix (nv 1) (nb 4)) (PE.toB (de_ix (nv 2) (nb 4))))))
 (ds_one (ds_ret (PE.fr (de_tup (da_cons (bTuple m_tuple (nb 0)) (da_cons (PE.frd (PE.movVar (pv 3) hB)) da_nil))))))))), ?_⟩
  subst e
  have t16 := two16 hm
  have l5 : qs.length < 5 := by omega
  refine ⟨List.nodup_nil, qs.length, by rw [List.length_map], hm, Nat.le_of_ble_eq_true rfl, Nat.le_of_ble_eq_true rfl, ?_⟩
  show (_ ∧ _) ∧ _ ∧ (∃ I : Nat → Ge → Prop, _)
  rw [List.length_map, figs_len _ l5, rngD_nat]
  refine ⟨rngOk t16, rfl, ?_⟩
  let G : Nat → Option Rv → Ge := fun i a => [some (.fro (dI qs)), some (.fro (.list ((List.range (2 ^ qs.length)).map fun i => nuD (ns i)))), some (.fro (.list (rowsD qs.length))), some (.dtt (fkv qs.length ns i)), a]
  refine ⟨fun i Γ => ∃ a, Γ = G i a, ⟨none, rfl⟩, ?_, ?_⟩
  · rintro i d _ hd ⟨a, rfl⟩
    obtain ⟨hi, rfl⟩ := rng_mget hd
    refine ⟨Nat.le_of_ble_eq_true rfl, _, rng_at rfl hi, _, map_at (g := dI) rfl (show (figs qs.length)[i]? = some (fig qs.length i) by rw [figs_eq _ l5, rng_get hi]), ?_⟩
    exact fkv_put l5 hi rfl ⟨_, rfl⟩
  · rintro _ ⟨a, rfl⟩
    rw [rng_len]
    exact ⟨Nat.le_of_ble_eq_true rfl, h⟩
def chg (r : List Int) (a : Nat) (f : Int) : List Int := r.take a ++ [f] ++ r.drop (a + 1)
theorem chgD {r : List Int} {a : Nat} {f : Int} (h : a < r.length) : cutD (r.map .int) none (some ((a : Nat) : Int)) ++ [.int f] ++ cutD (r.map .int) (some (((a : Nat) : Int) + 1)) none = (chg r a f).map PyData.int := by
  rw [cut_to' rfl (by rw [List.length_map]; omega), cut_from' (k := a + 1) (by omega) (by rw [List.length_map]; omega)]
  unfold chg
  simp [List.map_take, List.map_drop]
end
end K73
set_option Elab.async false
set_option linter.all false
set_option maxRecDepth 100000
set_option maxHeartbeats 4000000
namespace K73
open PySem PySem.Spec PyProof.Rows L2 Dn Zw
section
variable {P : Program} {w : World} {K : PySem.W.Frag} {mg : Str → Option Value} {base : Heap} {T : Addr → Prop} {f : Addr} {fd : FuncData} {c Pt : Addr} {k : Nat}
def clrN (i s : Nat) : Nat := if bitN i s then i - 2 ^ s else i
def setN (i s : Nat) : Nat := if bitN i s then i else i + 2 ^ s
theorem chg0 : ∀ m : Nat, m < 5 → ∀ a : Nat, a < m → ∀ i : Nat, i < 2 ^ m → chg (fig m i) a 0 = fig m (clrN i (m - 1 - a)) ∧ chg (fig m i) a 1 = fig m (setN i (m - 1 - a)) ∧ clrN i (m - 1 - a) < 2 ^ m ∧ setN i (m - 1 - a) < 2 ^ m := by decide +kernel
theorem fig_at : ∀ m : Nat, m < 5 → ∀ a : Nat, a < m → ∀ i : Nat, i < 2 ^ m → (fig m i)[a]? = some (if bitN i (m - 1 - a) then 1 else 0) := by decide +kernel
def gX (s : Nat) (ns : Am) : Am := fun i => ns (flipN i s)
def gT (s : Nat) (t : Int) (ns : Am) : Am := fun i => if bitN i s then (mul (wp t) (ns i).1, 0 + (ns i).2) else ns i
def plL (u v : Z4 × Int) : Z4 × Int := (plus u.1 (2 * u.2) v.1 (2 * v.2), max u.2 v.2)
def rootL (u : Z4 × Int) : Z4 × Int := (rootx 1 u.1, roote 1 u.2)
def gH (s : Nat) (ns : Am) : Am := fun i => rootL (if bitN i s then plL (ns (clrN i s)) (negP (ns (setN i s))) else plL (ns (clrN i s)) (ns (setN i s)))
def gE (s u : Nat) (ns : Am) : Am := fun i => if bitN i s && bitN i u then negP (ns i) else ns i
def gate (wd : Nat) (qs : List Int) (q more : Int) (ns : Am) : Am := match wd with
  | 0 => gX (sh qs q) ns
  | 1 => gT (sh qs q) more ns
  | 2 => gH (sh qs q) ns
  | _ => gE (sh qs q) (sh qs more) ns
def wstr : Nat → Str
  | 0 => "X"
  | 1 => "turn"
  | 2 => "H"
  | _ => "CZ"
/-- the law's numbers are not too great -/
def GdL (n : Nat) (ns : Am) : Prop := ∀ i, i < n → Bd 400000 (ns i).1 ∧ 0 ≤ (ns i).2 ∧ (ns i).2 ≤ 400
theorem clr_of {i s : Nat} (h : bitN i s = false) : clrN i s = i := by unfold clrN; rw [h]; rfl
theorem set_of {i s : Nat} (h : bitN i s = true) : setN i s = i := by unfold setN; rw [h]; rfl
theorem flip0 {i s : Nat} (h : bitN i s = false) : setN i s = flipN i s := by unfold setN flipN; simp [h]
theorem flip1 {i s : Nat} (h : bitN i s = true) : clrN i s = flipN i s := by unfold clrN flipN; simp [h]
theorem bd_plL {n : Nat} {u v : Z4 × Int} (h : Bd n u.1) (g : Bd n v.1) (u0 : 0 ≤ u.2) (u1 : u.2 ≤ 400) (v0 : 0 ≤ v.2) (v1 : v.2 ≤ 400) : Bd (n + 801) (plL u v).1 := by
  unfold plL plus
  exact (bd_add ((bd_rtn h _).mono (show n + _ ≤ n + 800 by omega)) ((bd_rtn g _).mono (show n + _ ≤ n + 800 by omega))).mono (by omega)
theorem sh_at {qs : List Int} {q : Int} : qs.length - 1 - qs.idxOf q = sh qs q := rfl
end
end K73
set_option Elab.async false
set_option linter.all false
set_option maxRecDepth 100000
set_option maxHeartbeats 4000000
namespace K73
open PySem PySem.Spec PyProof.Rows L2 Dn Zw
section
variable {P : Program} {w : World} {K : PySem.W.Frag} {mg : Str → Option Value} {base : Heap} {T : Addr → Prop} {f : Addr} {fd : FuncData} {c Pt : Addr} {k : Nat}
theorem del_fig : ∀ m : Nat, m < 4 → ∀ a : Nat, a < m + 1 → ∀ i : Nat, i < 2 ^ (m + 1) → (fig (m + 1) i).take a ++ (fig (m + 1) i).drop (a + 1) = fig m (oldN i (m - a)) := by decide +kernel
theorem nd01 : ([0, 1] : List Nat).Nodup := by decide
theorem rowsD_eq {m : Nat} (h : m < 5) : rowsD m = (List.range (2 ^ m)).map fun i => dI (fig m i) := by
  show (figs m).map dI = _
  rw [figs_eq m h, List.map_map]
  rfl
def ups (g : Am) (i : Nat) (v : Z4 × Int) : Am := fun j => if j = i then v else g j
theorem ups_map {α : Type} {u : Z4 × Int → α} {g : Am} {i : Nat} {v : Z4 × Int} : (List.range (i + 1)).map (fun j => u (ups g i v j)) = (List.range i).map (fun j => u (g j)) ++ [u v] := by
  rw [rng_snoc]
  congr 1
  · refine List.map_congr_left fun j hj => ?_
    have := rng_mem hj
    unfold ups
    rw [if_neg (by omega)]
  · unfold ups; rw [if_pos rfl]
def gN (qs : List Int) (q : Int) (ns : Am) : Am := fun i => rootL (ns (oldN i (sh (insQ qs q) q)))
abbrev s__law_row : Stmt := top 39
 def sp__law_row : DSp := fun ρs k => ∃ (qs : List Int) (ns : Am), ρs = [.fro (fiD qs ns)] ∧ qs.length ≤ 4 ∧ k (.fro (.list ((List.range (2 ^ qs.length)).map fun i => nuD (ns i)))) ρs
abbrev N__law_row : List Str := ["field", "row"]
theorem sc__law_row : FnScope N__law_row ["field"] (defScope s__law_row) := ⟨rfl, rfl, rfl, by decide +kernel, rfl, by decide +kernel, by decide +kernel⟩
theorem ok__law_row (F : Fun K "_law_row" "_law_row" s__law_row f fd) (c__law_figures : Cal P w K mg base T k "_law_figures" ["many"] sp__law_figures) (m_len : mg "len" = none) :
    FnOk P w K mg base CX0 (k + 1) f fd ["field"] (spD K T sp__law_row) := by
  refine F.okD T sc__law_row [] (fun ρs k ⟨qs, ns, e, hl, h⟩ => by subst e; exact ⟨rfl, rfl⟩) fun cdv A outer s H E B ρs k' hcd0 hr ⟨qs, ns, e, hl, h⟩ hB => ?_
  refine ⟨_, 
(ds_one (ds_ret (PE.fr (de_lc rfl sc__law_row.nd (di_row (ce c__law_figures hr (ar_cons (bLen m_len (PE.toB (de_ixA hr (nv 0) (PE.toB de_int)))) ar_nil))) (blkW N__law_row (defScope s__law_row) [("row", 1)] (by decide +kernel)) (fun B s H C cl fp => (dg_name sc__law_row.nd (i := 1) rfl (.inl rfl))) (fun B s H C cl fp => dts_nil) (fun B s H C cl fp => (de_ixA hr (de_ixA hr (nv 0) (PE.toB de_int)) (nb 1))))))), ?_⟩
  subst e
  have l5 : qs.length < 5 := by omega
  have t16 := two16 hl
  refine ⟨_, rfl, List.nodup_nil, qs.length, by rw [List.length_map], hl, _, rfl, ?_⟩
  refine lc_all (List.range (2 ^ qs.length)) (fun i => dI (fig qs.length i)) (fun i => nuD (ns i)) (rowsD_eq l5) (by rw [List.length_range]; omega) (fun i hi yes no hh => ?_) h
  have hi := rng_mem hi
  exact ⟨Nat.le_of_ble_eq_true rfl, _, rfl, i, _, fkv_get hi, hh _ rfl⟩
def Rel (n : Nat) (g ns : Am) : Prop := ∀ i, i < n → Canon (g i).1 (g i).2 ∧ Eqv (g i).1 (g i).2 (ns i).1 (2 * (ns i).2) ∧ Bd 900000 (g i).1 ∧ Bd 900000 (ns i).1 ∧ (g i).2 ≤ 1000 ∧ Sm (ns i).2
theorem pl_dI (n : Nat) (qs : List Int) (h : qs.length ≤ 1000) : Pl (n + 2) (dI qs) := by
  refine .inr ⟨_, .inr rfl, by rw [List.length_map]; exact h, fun e he => .inl ?_⟩
  obtain ⟨i, _, rfl⟩ := List.mem_map.mp he
  exact ⟨i, rfl⟩
theorem bools_true (n : Nat) : bools ((List.range n).map fun _ => PyData.bool true) = some ((List.range n).map fun _ => true) := by
  have := bools_of ((List.range n).map fun _ => true)
  rwa [List.map_map] at this
abbrev s__law_same_field : Stmt := top 40
 def sp__law_same_field : DSp := fun ρs k => ∃ (qs : List Int) (g ns : Am), ρs = [.fro (stD qs g), .fro (fiD qs ns)] ∧ qs.length ≤ 4 ∧ Rel (2 ^ qs.length) g ns ∧ k (.fro (.bool true)) ρs
abbrev N__law_same_field : List Str := ["told", "field", "due", "k"]
theorem sc__law_same_field : FnScope N__law_same_field ["told", "field"] (defScope s__law_same_field) := ⟨rfl, rfl, rfl, by decide +kernel, rfl, by decide +kernel, by decide +kernel⟩
theorem ok__law_same_field (F : Fun K "_law_same_field" "_law_same_field" s__law_same_field f fd) (c__law_row : Cal P w K mg base T k "_law_row" ["field"] sp__law_row) (c__law_exact : Cal P w K mg base T k "_law_exact" ["first", "second"] (sp__law_exact 4)) (c__law_is : Cal P w K mg base T k "_law_is" ["told", "due"] sp__law_is) (m_all : mg "all" = none) (m_isinstance : mg "isinstance" = none) (m_len : mg "len" = none) (m_range : mg "range" = none) (m_tuple : mg "tuple" = none) :
    FnOk P w K mg base CX0 (k + 1) f fd ["told", "field"] (spD K T sp__law_same_field) := by
  refine F.okD T sc__law_same_field [] (fun ρs k ⟨qs, g, ns, e, hl, hr', h⟩ => by subst e; exact ⟨rfl, rfl⟩) fun cdv A outer s H E B ρs k' hcd0 hr ⟨qs, g, ns, e, hl, hr', h⟩ hB => ?_
  refine ⟨_, 
(ds_cons (ds_if (PW.pt (dw_or (dt_not (tst (de_isi isT_tuple rfl m_isinstance rfl m_tuple boot_tuple (nb 0)))) (dw_or (t_ne hr (bLen m_len (nb 0)) (PE.toB de_int)) (dw_or (dt_not (tst (ce c__law_exact hr (ar_cons (bTuple m_tuple (PE.toB (de_ix (nv 1) (PE.toB de_int)))) (ar_cons (de_ix (nv 0) (PE.toB de_int)) ar_nil))))) (dw_or1 (dt_not (tst (de_isi isT_tuple rfl m_isinstance rfl m_tuple boot_tuple (PE.toB (de_ix (nv 0) (PE.toB de_int)))))))))))
 (ds_one (ds_ret (PE.fr de_bl)))
 ds_nil)
 (ds_cons (ds_set (i := 2) sc__law_same_field.nd rfl (.inr rfl) (PE.fr (ce c__law_row hr (ar_cons (nv 1) ar_nil))))
 (ds_one (ds_ret (PE.fr (de_and (c_eq hr (bLen m_len (nb 2)) (PE.toB (bLen m_len (PE.toB (de_ix (nv 0) (PE.toB de_int)))))) (de_one (bAll rfl m_all (PE.toB (de_lc rfl sc__law_same_field.nd (di_range1 rfl m_range (PE.toB (bLen m_len (nb 2)))) (blkW N__law_same_field (defScope s__law_same_field) [("k", 3)] (by decide +kernel)) (fun B s H C cl fp => (dg_name sc__law_same_field.nd (i := 3) rfl (.inl rfl))) (fun B s H C cl fp => dts_nil) (fun B s H C cl fp => (ce c__law_is hr (ar_cons (de_ix (de_ix (nv 0) (PE.toB de_int)) (nb 3)) (ar_cons (de_ix (nv 2) (nb 3)) ar_nil)))))))))))))), ?_⟩
  subst e
  have l5 : qs.length < 5 := by omega
  have t16 := two16 hl
  refine ⟨⟨rfl, rfl⟩, _, rfl, _, rfl, List.nodup_nil, dI qs, rfl, pl_dI 2 _ (by omega), _, rfl, ?_⟩
  refine ⟨List.nodup_nil, qs, ns, rfl, hl, Nat.le_of_ble_eq_true rfl, ?_⟩
  refine ⟨_, rfl, ⟨rfl, rfl⟩, ?_⟩
  have le : ((((List.range (2 ^ qs.length)).map fun i => nuD (ns i)).length : Nat) : Int) = ((((List.range (2 ^ qs.length)).map fun i => t5 (g i).1 (g i).2).length : Nat) : Int) := by rw [rng_len, rng_len]
  refine mB (fun _ => ?_) (fun z => ?_)
  · show _ ∧ LcGoal _ _ _ _ _ _ _ _
    rw [rng_len, rngD_nat]
    refine ⟨rngOk t16, ?_⟩
    refine lc_all (List.range (2 ^ qs.length)) _ (fun _ => .bool true) rfl (by rw [List.length_range]; omega) (fun i hi yes no hh => ?_) ?_
    · have hi := rng_mem hi
      obtain ⟨r1, r2, r3, r4, r5, r6⟩ := hr' i hi
      exact ⟨Nat.le_of_ble_eq_true rfl, _, rfl, _, rng_at rfl hi, _, rng_at rfl hi, List.nodup_nil, _, _, _, _, rfl, r1, r2, r3, r4, r5, r6, hh _ rfl⟩
    · refine ⟨_, bools_true _, ?_⟩
      have e1 : ((List.range (2 ^ qs.length)).map fun _ => true).all id = true := by simp
      show k' (.fro (.bool (((List.range (2 ^ qs.length)).map fun _ => true).all id))) _
      rw [e1]
      exact h
  · have z : (((((List.range (2 ^ qs.length)).map fun i => nuD (ns i)).length : Nat) : Int) == ((((List.range (2 ^ qs.length)).map fun i => t5 (g i).1 (g i).2).length : Nat) : Int)) = false := z
    rw [le] at z
    simp at z
abbrev s__law_state : Stmt := top 42
 def sp__law_state : DSp := fun ρs k => ∃ (a b : Int) (sc qs : List Int), ρs = [st a b, .scr sc, .fro (dI qs)] ∧ SOk sc ∧ 0 ≤ a ∧ a ≤ 2 ^ 48 ∧ qs.length ≤ 4 ∧ ∀ (g : Am) (a' b' : Int), (∀ i, i < 2 ^ qs.length → Bd 30 (g i).1 ∧ 0 ≤ (g i).2 ∧ (g i).2 ≤ 5) → a ≤ a' → a' ≤ a + 200 → k (.fro (.list ((List.range (2 ^ qs.length)).map fun i => nuD (g i)))) [st a' b', .scr sc, .fro (dI qs)]
abbrev N__law_state : List Str := ["state", "script", "qubits", "k"]
theorem sc__law_state : FnScope N__law_state ["state", "script", "qubits"] (defScope s__law_state) := ⟨rfl, rfl, rfl, by decide +kernel, rfl, by decide +kernel, by decide +kernel⟩
theorem ok__law_state (F : Fun K "_law_state" "_law_state" s__law_state f fd) (c__law_number : Cal P w K mg base T k "_law_number" ["state", "script"] sp__law_number) (m_len : mg "len" = none) (m_range : mg "range" = none) :
    FnOk P w K mg base CX0 (k + 1) f fd ["state", "script", "qubits"] (spD K T sp__law_state) := by
  refine F.okD T sc__law_state [0] (fun ρs k ⟨a, b, sc, qs, e, so, a0, a1, hl, h⟩ => by subst e; exact ⟨rfl, rfl⟩) fun cdv A outer s H E B ρs k' hcd0 hr ⟨a, b, sc, qs, e, so, a0, a1, hl, h⟩ hB => ?_
  refine ⟨_, 
(ds_one (ds_ret (PE.fr (de_lc rfl sc__law_state.nd (di_range1 rfl m_range (PE.toB (de_shl de_int (PE.toB (bLen m_len (nb 2)))))) (blkW N__law_state (defScope s__law_state) [("k", 3)] (by decide +kernel)) (fun B s H C cl fp => (dg_name sc__law_state.nd (i := 3) rfl (.inl rfl))) (fun B s H C cl fp => dts_nil) (fun B s H C cl fp => (ce c__law_number hr (ar_own (pv 0) (ar_own (pv 1) ar_nil)))))))), ?_⟩
  subst e
  have t16 := two16 hl
  have len : (((qs.map PyData.int).length : Nat) : Int) = ((qs.length : Nat) : Int) := by rw [List.length_map]
  have p2 : (1 : Int) * 2 ^ (((qs.map PyData.int).length : Nat) : Int).toNat = ((2 ^ qs.length : Nat) : Int) := by rw [len]; simp
  refine ⟨by rw [len]; exact shl_ok (n := 1) (by decide) (by omega), ?_⟩
  show _ ∧ LcGoal _ _ _ _ _ _ _ _
  dsimp only
  rw [p2, rngD_nat]
  refine ⟨rngOk t16, ?_⟩
  refine ⟨fun j h => (by cases h), fun i acc Γ => ∃ (g : Am) (a3 b3 : Int), acc = (List.range i).map (fun i => nuD (g i)) ∧ (∀ j, j < i → Bd 30 (g j).1 ∧ 0 ≤ (g j).2 ∧ (g j).2 ≤ 5) ∧ a ≤ a3 ∧ a3 ≤ a + 11 * i ∧ Γ = [some (st a3 b3), some (.scr sc), some (.fro (dI qs)), none], ⟨fun _ => (zero, 0), a, b, rfl, fun _ h => (by omega), by omega, by omega, rfl⟩, fun i acc Γ _ _ j h => (by cases h), ?_, ?_⟩
  · rintro i d _ _ hd ⟨g, a3, b3, rfl, hb, h3, h4, rfl⟩
    obtain ⟨hi, rfl⟩ := rng_mget hd
    refine ⟨by rw [rng_len]; omega, Nat.le_of_ble_eq_true rfl, (by decide), a3, b3, sc, rfl, so, by omega, by omega, fun x e a4 b4 bx e0 e1 h5 h6 => ?_⟩
    refine ⟨ups g i (x, e), a4, b4, (ups_map (u := nuD) (g := g) (i := i) (v := (x, e))).symm, fun j hj => ?_, by omega, by push_cast; omega, rfl⟩
    unfold ups
    by_cases ej : j = i
    · rw [if_pos ej]; exact ⟨bx, e0, e1⟩
    · rw [if_neg ej]; exact hb j (by omega)
  · rintro _ _ ⟨g, a3, b3, rfl, hb, h3, h4, rfl⟩
    rw [rng_len] at *
    exact h g a3 b3 hb h3 (by omega)
abbrev s__law_qubits : Stmt := top 43
 def sp__law_qubits : DSp := fun ρs k => ∃ (a b : Int) (sc : List Int) (most : Int), ρs = [st a b, .scr sc, .fro (.int most)] ∧ SOk sc ∧ 0 ≤ a ∧ a ≤ 2 ^ 48 ∧ 0 < most ∧ most ≤ 8 ∧ ∀ (qs : List Int) (a' b' : Int), qs.Pairwise (· < ·) → 1 ≤ qs.length → (qs.length : Int) ≤ most → (∀ q ∈ qs, 0 ≤ q ∧ q ≤ 23) → a ≤ a' → a' ≤ a + 100 → k (.fro (dI qs)) [st a' b', .scr sc, .fro (.int most)]
abbrev N__law_qubits : List Str := ["state", "script", "most", "qubits", "k"]
theorem sc__law_qubits : FnScope N__law_qubits ["state", "script", "most"] (defScope s__law_qubits) := ⟨rfl, rfl, rfl, by decide +kernel, rfl, by decide +kernel, by decide +kernel⟩
theorem ok__law_qubits (F : Fun K "_law_qubits" "_law_qubits" s__law_qubits f fd) (c__law_draw : Cal P w K mg base T k "_law_draw" ["state", "script", "size"] sp__law_draw) (m_range : mg "range" = none) (m_set : mg "set" = none) (m_sorted : mg "sorted" = none) (m_tuple : mg "tuple" = none) :
    FnOk P w K mg base CX0 (k + 1) f fd ["state", "script", "most"] (spD K T sp__law_qubits) := by
  refine F.okD T sc__law_qubits [0] (fun ρs k ⟨a, b, sc, most, e, so, a0, a1, m0, m1, h⟩ => by subst e; exact ⟨rfl, rfl⟩) fun cdv A outer s H E B ρs k' hcd0 hr ⟨a, b, sc, most, e, so, a0, a1, m0, m1, h⟩ hB => ?_
  refine ⟨_, 
(ds_cons (ds_set (i := 3) sc__law_qubits.nd rfl (.inl rfl) (de_lst da_nil))
 (ds_cons (ds_for PassesOwn.never rfl (di_range1 rfl m_range (PE.toB (de_add de_int (PE.toB (ce c__law_draw hr (ar_own (pv 0) (ar_own (pv 1) (ar_cons (nv 2) ar_nil)))))))) (dg_name sc__law_qubits.nd (i := 4) rfl (.inl rfl))
 (ds_one (ds_expr (de_append (pv 3) (de_ix (de_lst (da_cons (nv 4) (da_cons (de_sub de_int (nb 4)) (da_cons (ce c__law_draw hr (ar_own (pv 0) (ar_own (pv 1) (ar_cons de_int ar_nil)))) da_nil)))) (PE.toB (ce c__law_draw hr (ar_own (pv 0) (ar_own (pv 1) (ar_cons de_int ar_nil))))))))))
 (ds_one (ds_ret (PE.fr (bTuple m_tuple (PE.toB (bSortSet rfl m_sorted m_set (nb 3))))))))), ?_⟩
  subst e
  refine ⟨Nat.le_of_ble_eq_true rfl, Nat.le_of_ble_eq_true rfl, ?_⟩
  refine ⟨nd01, a, b, sc, most, rfl, so, a0, by omega, m0, by omega, fun d a2 b2 d0 d1 h1 h2 => ?_⟩
  refine ⟨⟨by omega, by omega⟩, rfl, ?_⟩
  refine ⟨fun i Γ => ∃ (xs : List Int) (a3 b3 : Int) (z : Option Rv), xs.length = i ∧ (∀ x ∈ xs, 0 ≤ x ∧ x ≤ 23) ∧ a ≤ a3 ∧ a3 ≤ a + 1 + 2 * i ∧ Γ = [some (st a3 b3), some (.scr sc), some (.fro (.int most)), some (.lst (xs.map .int)), z], ⟨[], a2, b2, _, rfl, fun _ h => (by cases h), by omega, by omega, rfl⟩, ?_, ?_⟩
  · rintro i d' _ hd ⟨xs, a3, b3, z, hl, hx, h3, h4, rfl⟩
    obtain ⟨hi, rfl⟩ := rngD_get hd
    have hi8 : (i : Int) < 8 := by omega
    refine ⟨Nat.le_of_ble_eq_true rfl, ?_⟩
    refine ⟨nd01, a3, b3, sc, 24, rfl, so, by omega, by omega, by decide, by decide, fun v a4 b4 v0 v1 h5 h6 => ?_⟩
    refine ⟨Nat.le_of_ble_eq_true rfl, ?_⟩
    refine ⟨nd01, a4, b4, sc, 3, rfl, so, by omega, by omega, by decide, by decide, fun u a5 b5 u0 u1 h7 h8 => ?_⟩
    have hw : ∃ e : Int, atI ([.int (0 + (i : Nat) * 1), .int (23 - (0 + (i : Nat) * 1)), .int v] : List D) u = some (.int e) ∧ 0 ≤ e ∧ e ≤ 23 := by
      have : u = ((0 : Nat) : Int) ∨ u = ((1 : Nat) : Int) ∨ u = ((2 : Nat) : Int) := by omega
      rcases this with rfl | rfl | rfl
      · exact ⟨_, rfl, by omega, by omega⟩
      · exact ⟨_, rfl, by omega, by omega⟩
      · exact ⟨v, rfl, v0, by omega⟩
    obtain ⟨e, ee, e0, e1⟩ := hw
    refine ⟨_, ee, by rw [List.length_map]; omega, xs ++ [e], a5, b5, _, by simp [hl], fun x hx' => ?_, by omega, by push_cast; omega, by rw [List.map_append]; rfl⟩
    rcases List.mem_append.mp hx' with hx' | hx'
    · exact hx x hx'
    · rw [List.mem_singleton.mp hx']; exact ⟨e0, e1⟩
  · rintro _ ⟨xs, a3, b3, z, hl, hx, h3, h4, rfl⟩
    rw [rngD_len] at hl h4
    refine ⟨xs, intsD_of xs, by omega, fun ms hm hk hle => ?_⟩
    refine h ms a3 b3 hm ?_ (by omega) (fun q hq => hx q ((hk q).mp hq)) h3 (by omega)
    rcases ms with _ | ⟨m, ms⟩
    · cases xs with
      | nil => exfalso; simp at hl; omega
      | cons x xs => exact absurd ((hk x).mpr (by simp)) (by simp)
    · simp
end
end K73
set_option Elab.async false
set_option linter.all false
set_option maxRecDepth 100000
set_option maxHeartbeats 4000000
namespace K73
open PySem PySem.Spec PyProof.Rows L2 Dn Zw
/-! what the program has, what the law has -/
structure Q1 (b : Nat) (u v : Z4 × Int) : Prop where
  can : Canon u.1 u.2
  eqv : Eqv u.1 u.2 v.1 (2 * v.2)
  bu : Bd (30 + 3000 * b) u.1
  bv : Bd (30 + 3000 * b) v.1
  pu : u.2 ≤ 10 + b
  v0 : 0 ≤ v.2
  v1 : v.2 ≤ 5 + b
theorem Q1.up {b : Nat} {u v : Z4 × Int} (h : Q1 b u v) : Q1 (b + 1) u v := ⟨h.can, h.eqv, h.bu.mono (by omega), h.bv.mono (by omega), by have := h.pu; push_cast; omega, h.v0, by have := h.v1; push_cast; omega⟩
theorem q_neg {b : Nat} {u v : Z4 × Int} (h : Q1 b u v) : Q1 b (negP u) (negP v) := ⟨canon_neg h.can, eqv_neg h.eqv, bd_neg h.bu, bd_neg h.bv, h.pu, h.v0, h.v1⟩
theorem q_turn {b : Nat} {u v : Z4 × Int} (t : Int) (h : Q1 b u v) : Q1 (b + 1) (exF (mul (wp t) u.1) (0 + u.2)) (mul (wp t) v.1, 0 + v.2) := by
  have e := exF_ex (mul (wp t) u.1) (0 + u.2)
  have p := h.pu
  have c := h.can.1
  refine ⟨e.can, ?_, (e.bd _ (bd_mul (bd_wp t) h.bu)).mono (by omega), (bd_mul (bd_wp t) h.bv).mono (by omega), by have := e.top; push_cast; omega, by have := h.v0; show 0 ≤ 0 + v.2; omega, by have := h.v1; show 0 + v.2 ≤ _; push_cast; omega⟩
  have g := eqv_mul (.refl (wp t) 0) h.eqv
  show Eqv _ _ (mul (wp t) v.1) (2 * (0 + v.2))
  rw [show 2 * (0 + v.2) = 0 + 2 * v.2 by omega]
  exact e.eqv.symm.trans g
theorem q_root {b : Nat} {z : Z4} {p : Int} {v : Z4 × Int} (hb : Bd (30 + 3000 * b + 2000) z) (hv : Bd (30 + 3000 * b + 2000) v.1) (p0 : 0 ≤ p) (p1 : p ≤ 10 + b) (v0 : 0 ≤ v.2) (v1 : v.2 ≤ 5 + b) (h : Eqv z p v.1 (2 * v.2)) : Q1 (b + 1) (exF z (p + 1)) (rootL v) := by
  have e := exF_ex z (p + 1)
  refine ⟨e.can, ?_, (e.bd _ hb).mono (by omega), (bd_rtn hv _).mono ?_, by have := e.top; push_cast; omega, ?_, ?_⟩
  · exact e.eqv.symm.trans ((eqv_pow h 1).trans (root_eqv 1 v.2 v.1))
  · show 30 + 3000 * b + 2000 + 1 ≤ 30 + 3000 * (b + 1); omega
  · show 0 ≤ v.2 + 1; omega
  · show v.2 + 1 ≤ _; push_cast; omega
theorem q_had {b : Nat} {u1 v1 u2 v2 : Z4 × Int} (hb : b ≤ 20) (h : Q1 b u1 v1) (g : Q1 b u2 v2) : Q1 (b + 1) (exF (addP u1 u2).1 ((addP u1 u2).2 + 1)) (rootL (plL v1 v2)) := by
  have e := exF_ex (plus u1.1 u1.2 u2.1 u2.2) (max u1.2 u2.2)
  have c1 := h.can.1; have c2 := g.can.1
  have p1 := h.pu; have p2 := g.pu
  have a1 := h.v0; have a2 := g.v0
  have b1 := h.v1; have b2 := g.v1
  have bp : Bd (30 + 3000 * b + 2000) (addP u1 u2).1 := by
    refine (e.bd (30 + 3000 * b + 801) ?_).mono (by omega)
    unfold plus
    exact (bd_add ((bd_rtn h.bu _).mono (show _ ≤ 30 + 3000 * b + 800 by omega)) ((bd_rtn g.bu _).mono (show _ ≤ 30 + 3000 * b + 800 by omega))).mono (by omega)
  refine q_root bp ((bd_plL h.bv g.bv a1 (by omega) a2 (by omega)).mono (by omega)) e.can.1 (by have := e.top; show (exF _ _).2 ≤ _; omega) (by show 0 ≤ max v1.2 v2.2; omega) (by show max v1.2 v2.2 ≤ _; omega) ?_
  have t := eqv_plus h.eqv g.eqv
  rw [show max (2 * v1.2) (2 * v2.2) = 2 * max v1.2 v2.2 by omega] at t
  exact e.eqv.symm.trans t
def RR (b n : Nat) (g ns : Am) : Prop := ∀ i, i < n → Q1 b (g i) (ns i)
theorem RR.up {b n : Nat} {g ns : Am} (h : RR b n g ns) : RR (b + 1) n g ns := fun i hi => (h i hi).up
theorem RR.rel {b n : Nat} {g ns : Am} (h : RR b n g ns) (hb : b ≤ 100) : Rel n g ns := fun i hi => by
  have q := h i hi
  have := q.pu; have := q.v1
  exact ⟨q.can, q.eqv, q.bu.mono (by omega), q.bv.mono (by omega), by omega, q.v0, by omega⟩
theorem RR.gd {b n : Nat} {g ns : Am} (h : RR b n g ns) (hb : b ≤ 100) : ∀ i, i < n → Bd 800000 (g i).1 ∧ 0 ≤ (g i).2 ∧ (g i).2 ≤ 1000 := fun i hi => by
  have q := h i hi
  have := q.pu
  exact ⟨q.bu.mono (by omega), q.can.1, by omega⟩
theorem RR.gd' {b n : Nat} {g ns : Am} (h : RR b n g ns) (hb : b ≤ 100) : Gd n g := fun i hi => by
  obtain ⟨h1, h2, h3⟩ := h.gd hb i hi
  exact ⟨h1.mono (by omega), h2, h3⟩
theorem RR.gdl {b n : Nat} {g ns : Am} (h : RR b n g ns) (hb : b ≤ 100) : GdL n ns := fun i hi => by
  have q := h i hi
  have := q.v1
  exact ⟨q.bv.mono (by omega), q.v0, by omega⟩
section
variable {b : Nat} {qs : List Int} {q : Int} {g ns : Am}
theorem rr_x (h : RR b (2 ^ qs.length) g ns) (hl : qs.length ≤ 4) (hq : q ∈ qs) : RR b (2 ^ qs.length) (fun i => g (flipN i (sh qs q))) (gate 0 qs q 0 ns) := fun i hi =>
  h _ (flip_lt qs.length (by omega) _ (sh_lt hq) i hi)
theorem rr_t (t : Int) (h : RR b (2 ^ qs.length) g ns) : RR (b + 1) (2 ^ qs.length) (turnF qs q t g) (gate 1 qs q t ns) := fun i hi => by
  show Q1 _ (turnF qs q t g i) (gT (sh qs q) t ns i)
  unfold turnF gT
  cases bitN i (sh qs q)
  · exact (h i hi).up
  · exact q_turn t (h i hi)
theorem rr_h (m : Int) (hb : b ≤ 20) (h : RR b (2 ^ qs.length) g ns) (hl : qs.length ≤ 4) (hq : q ∈ qs) : RR (b + 1) (2 ^ qs.length) (hadF qs q g) (gate 2 qs q m ns) := fun i hi => by
  have hj := flip_lt qs.length (by omega) _ (sh_lt hq) i hi
  show Q1 _ (hadF qs q g i) (gH (sh qs q) ns i)
  unfold hadF gH
  cases hbit : bitN i (sh qs q) with
  | false => rw [clr_of hbit, flip0 hbit]; exact q_had hb (h i hi) (h _ hj)
  | true => rw [set_of hbit, flip1 hbit]; exact q_had hb (h _ hj) (q_neg (h i hi))
theorem rr_e (a c : Int) (h : RR b (2 ^ qs.length) g ns) : RR b (2 ^ qs.length) (entF qs a c g) (gate 3 qs a c ns) := fun i hi => by
  show Q1 _ (entF qs a c g i) (gE (sh qs a) (sh qs c) ns i)
  unfold entF gE
  cases bitN i (sh qs a) && bitN i (sh qs c)
  · exact h i hi
  · exact q_neg (h i hi)
theorem rr_n (q : Int) (hb : b ≤ 20) (h : RR b (2 ^ qs.length) g ns) (hl : qs.length < 4) : RR (b + 1) (2 ^ (insQ qs q).length) (prepF qs q g) (gN qs q ns) := fun i hi => by
  have l1 := insQ_len qs q
  have s1 := sh_lt (insQ_mem qs q)
  have oi := old_lt qs.length (by omega) (sh (insQ qs q) q) (by omega) i (by rw [← l1]; exact hi)
  have z := h _ oi
  have := z.pu; have := z.v1
  exact q_root (z.bu.mono (by omega)) (z.bv.mono (by omega)) z.can.1 (by omega) z.v0 (by omega) z.eqv
end
/-! rows with no item twice -/
theorem sublen {α : Type} [DecidableEq α] : ∀ (l q : List α), l.Nodup → (∀ x ∈ l, x ∈ q) → l.length ≤ q.length := by
  intro l
  induction l with
  | nil => intro q _ _; simp
  | cons x l ih =>
    intro q hn hs
    rw [List.nodup_cons] at hn
    have hx := hs x (by simp)
    have := ih (q.erase x) hn.2 fun y hy => (List.mem_erase_of_ne (by rintro rfl; exact hn.1 hy)).mpr (hs y (by simp [hy]))
    rw [List.length_erase_of_mem hx] at this
    have := List.length_pos_of_mem hx
    simp
    omega
theorem filter_split {α : Type} (p : α → Bool) (l : List α) : (l.filter p).length + (l.filter fun x => !p x).length = l.length := by
  induction l with
  | nil => rfl
  | cons x l ih => cases h : p x <;> simp [h] <;> omega
theorem others_len {q : Int} {qs : List Int} (hn : qs.Nodup) : qs.length - 1 ≤ (qs.filter fun x => !(x == q)).length := by
  have h1 := filter_split (fun x => x == q) qs
  have h2 := sublen (qs.filter fun x => x == q) [q] (hn.filter _) fun x hx => by simpa using (List.mem_filter.mp hx).2
  simp at h2
  omega
theorem news_len {qs : List Int} : 24 - qs.length ≤ (((List.range 24).map fun i => ((i : Nat) : Int)).filter fun x => !(qs.any fun z => z == x)).length := by
  have h1 := filter_split (fun x => qs.any fun z => z == x) ((List.range 24).map fun i => ((i : Nat) : Int))
  have h2 := sublen (((List.range 24).map fun i => ((i : Nat) : Int)).filter fun x => qs.any fun z => z == x) qs (List.Pairwise.filter _ (by decide +kernel)) fun x hx => by
    obtain ⟨z, hz, e⟩ := List.any_eq_true.mp (List.mem_filter.mp hx).2
    have : z = x := by simpa using e
    exact this ▸ hz
  simp at h1
  omega
theorem insQ_nodup {qs : List Int} {q : Int} (hn : qs.Nodup) (h : q ∉ qs) : (insQ qs q).Nodup := by
  refine (srtI_perm _).nodup_iff.mpr ?_
  rw [List.nodup_append]
  exact ⟨hn, by simp, fun a ha b hb => by rw [List.mem_singleton.mp hb]; rintro rfl; exact h ha⟩
theorem insQ_all {qs : List Int} {q x : Int} (h : x ∈ insQ qs q) : x ∈ qs ∨ x = q := by simpa using srtI_mem.mp h
end K73
set_option Elab.async false
set_option linter.all false
set_option maxRecDepth 100000
set_option maxHeartbeats 4000000
namespace K73
open PySem PySem.Spec PyProof.Rows L2 Dn Zw
/-! planes -/
theorem L {m n : Nat} (h : m.ble n = true) : m ≤ n := Nat.le_of_ble_eq_true h
def pst : Nat → Str
  | 0 => "XY"
  | 1 => "XZ"
  | _ => "YZ"
def byL (u v : Z4 × Int) : Z4 × Int := (mul u.1 v.1, u.2 + v.2)
def barL (u : Z4 × Int) : Z4 × Int := (conj u.1, u.2)
def rootN (n : Int) (u : Z4 × Int) : Z4 × Int := (rootx n u.1, roote n u.2)
def oneL : Z4 × Int := (one, 0)
def wL (t : Int) : Z4 × Int := (wp t, 0)
def ii : Z4 := ⟨0, 0, 1, 0⟩
def lo (p : Nat) (t : Int) : Z4 × Int := match p with
  | 0 => rootN 1 oneL
  | _ => rootN 2 (plL oneL (wL t))
def hi (p : Nat) (t : Int) : Z4 × Int := match p with
  | 0 => rootN 1 (wL t)
  | 1 => byL (ii, 0) (rootN 2 (plL oneL (negP (wL t))))
  | _ => rootN 2 (plL oneL (negP (wL t)))
theorem Q1.upn {b : Nat} {u v : Z4 × Int} (h : Q1 b u v) (n : Nat) : Q1 (b + n) u v := by
  induction n with
  | zero => exact h
  | succ n ih => exact ih.up
theorem Q1.le {b c : Nat} {u v : Z4 × Int} (h : Q1 b u v) (l : b ≤ c) : Q1 c u v := by
  have := h.upn (c - b)
  rwa [show b + (c - b) = c by omega] at this
theorem q_of {u v : Z4 × Int} (c : Canon u.1 u.2) (e : Eqv u.1 u.2 v.1 (2 * v.2)) (b1 : Bd 30 u.1) (b2 : Bd 30 v.1) (p : u.2 ≤ 10) (v0 : 0 ≤ v.2) (v1 : v.2 ≤ 5) : Q1 0 u v := ⟨c, e, b1, b2, by simpa using p, v0, by simpa using v1⟩
theorem q_one : Q1 0 (one, 0) oneL := q_of ⟨Int.le_refl 0, .inl rfl⟩ (.refl _ _) ((bd_wp 0).mono (L rfl)) ((bd_wp 0).mono (L rfl)) (by decide) (by decide) (by decide)
theorem q_w (t : Int) : Q1 0 (wp t, 0) (wL t) := q_of ⟨Int.le_refl 0, .inl rfl⟩ (.refl _ _) ((bd_wp t).mono (L rfl)) ((bd_wp t).mono (L rfl)) (by show (0 : Int) ≤ 10; decide) (by show (0 : Int) ≤ 0; decide) (by show (0 : Int) ≤ 5; decide)
theorem q_bar {b : Nat} {u v : Z4 × Int} (h : Q1 b u v) : Q1 b (conj u.1, u.2) (barL v) := ⟨canon_conj h.can, eqv_conj h.eqv, bd_conj h.bu, bd_conj h.bv, h.pu, h.v0, h.v1⟩
theorem q_sc {b : Nat} {u v : Z4 × Int} (n : Int) (n0 : 0 < n) (n2 : n ≤ 2) (h : Q1 b u v) : Q1 (b + 2) (exF u.1 (u.2 + n)) (rootN n v) := by
  have e := exF_ex u.1 (u.2 + n)
  have c := h.can.1
  have p := h.pu
  have a0 := h.v0
  have a1 := h.v1
  have r2 : roote n v.2 = v.2 + n := by unfold roote; rw [if_pos n0]
  refine ⟨e.can, ?_, (e.bd _ h.bu).mono (by omega), ?_, by have := e.top; push_cast; omega, ?_, ?_⟩
  · have t := root_eqv n v.2 v.1
    exact e.eqv.symm.trans ((eqv_pow h.eqv n).trans t)
  · show Bd _ (rootx n v.1)
    unfold rootx
    exact (bd_rtn h.bv _).mono (by split <;> omega)
  · show 0 ≤ roote n v.2; omega
  · show roote n v.2 ≤ _; push_cast; omega
theorem q_add {b : Nat} {u1 v1 u2 v2 : Z4 × Int} (hb : b ≤ 60) (h : Q1 b u1 v1) (g : Q1 b u2 v2) : Q1 (b + 1) (exF (plus u1.1 u1.2 u2.1 u2.2) (max u1.2 u2.2)) (plL v1 v2) := by
  have e := exF_ex (plus u1.1 u1.2 u2.1 u2.2) (max u1.2 u2.2)
  have c1 := h.can.1; have c2 := g.can.1
  have p1 := h.pu; have p2 := g.pu
  have a1 := h.v0; have a2 := g.v0
  have b1 := h.v1; have b2 := g.v1
  refine ⟨e.can, ?_, ?_, ?_, by have := e.top; push_cast; omega, by show 0 ≤ max v1.2 v2.2; omega, by show max v1.2 v2.2 ≤ _; push_cast; omega⟩
  · have t := eqv_plus h.eqv g.eqv
    rw [show max (2 * v1.2) (2 * v2.2) = 2 * max v1.2 v2.2 by omega] at t
    exact e.eqv.symm.trans t
  · refine (e.bd (30 + 3000 * b + 801) ?_).mono (by omega)
    unfold plus
    exact (bd_add ((bd_rtn h.bu _).mono (show _ ≤ 30 + 3000 * b + 800 by omega)) ((bd_rtn g.bu _).mono (show _ ≤ 30 + 3000 * b + 800 by omega))).mono (by omega)
  · exact (bd_plL h.bv g.bv a1 (by omega) a2 (by omega)).mono (by omega)
theorem q_mul {a b : Nat} {u1 v1 u2 v2 : Z4 × Int} (h : Q1 a u1 v1) (g : Q1 b u2 v2) : Q1 (a + b + 10) (exF (mul u1.1 u2.1) (u1.2 + u2.2)) (byL v1 v2) := by
  have e := exF_ex (mul u1.1 u2.1) (u1.2 + u2.2)
  have c1 := h.can.1; have c2 := g.can.1
  have p1 := h.pu; have p2 := g.pu
  have a1 := h.v0; have a2 := g.v0
  have b1 := h.v1; have b2 := g.v1
  refine ⟨e.can, ?_, (e.bd _ (bd_mul h.bu g.bu)).mono (by omega), (bd_mul h.bv g.bv).mono (by omega), by have := e.top; push_cast; omega, by show 0 ≤ v1.2 + v2.2; omega, by show v1.2 + v2.2 ≤ _; push_cast; omega⟩
  have t := eqv_mul h.eqv g.eqv
  rw [show 2 * v1.2 + 2 * v2.2 = 2 * (v1.2 + v2.2) by omega] at t
  exact e.eqv.symm.trans t
theorem Q1.lo1 {b : Nat} {u v : Z4 × Int} (h : Q1 b u v) (l : b ≤ 100) : Lo u.2 := lo1000 h.can.1 (by have := h.pu; omega)
theorem Q1.big {b : Nat} {u v : Z4 × Int} (h : Q1 b u v) (l : b ≤ 200) : Bd 1000000 u.1 := h.bu.mono (by omega)
section
variable {P : Program} {w : World} {K : PySem.W.Frag} {mg : Str → Option Value} {base : Heap} {T : Addr → Prop} {f : Addr} {fd : FuncData} {c Pt : Addr} {k : Nat}
abbrev s_plane_state : Stmt := top 17
 def sp_plane_state : DSp := fun ρs k => ∃ (p : Nat) (t : Int), ρs = [.fro (.str (pst p)), .fro (.int t)] ∧ p < 3 ∧ ∀ l h, Q1 13 l (lo p t) → Q1 13 h (hi p t) → k (.fro (.tuple [t5 l.1 l.2, t5 h.1 h.2])) ρs
abbrev N_plane_state : List Str := ["plane", "turns", "factor", "low", "high"]
theorem sc_plane_state : FnScope N_plane_state ["plane", "turns"] (defScope s_plane_state) := ⟨rfl, rfl, rfl, by decide +kernel, rfl, by decide +kernel, by decide +kernel⟩
theorem ok_plane_state (F : Fun K "plane_state" "plane_state" s_plane_state f fd) (c_unit : Cal P w K mg base T k "unit" ["turns"] sp_unit) (c_scaled : Cal P w K mg base T k "scaled" ["number", "power"] sp_scaled) (c_add : Cal P w K mg base T k "add" ["one", "other"] sp_add) (c_negate : Cal P w K mg base T k "negate" ["number"] sp_negate) (c_times : Cal P w K mg base T k "times" ["one", "other"] sp_times) (g_ONE : Glb K mg "ONE" (t5 one 0)) (g_IMAGINARY : Glb K mg "IMAGINARY" (.int 2)) :
    FnOk P w K mg base CX0 (k + 1) f fd ["plane", "turns"] (spD K T sp_plane_state) := by
  refine F.okD T sc_plane_state [] (fun ρs k ⟨p, t, e, hp, h⟩ => by subst e; exact ⟨rfl, rfl⟩) fun cdv A outer s H E B ρs k' hcd0 hr ⟨p, t, e, hp, h⟩ hB => ?_
  refine ⟨_, 
(ds_cons (ds_set (i := 2) sc_plane_state.nd rfl (.inl rfl) (PE.fr (ce c_unit hr (ar_cons (nv 1) ar_nil))))
 (ds_cons (ds_if (t_eq hr (nv 0) (PE.toB de_str))
 (ds_one (ds_ret (PE.fr (de_tup (da_cons (ce c_scaled hr (ar_cons (dgl g_ONE) (ar_cons de_int ar_nil))) (da_cons (ce c_scaled hr (ar_cons (nv 2) (ar_cons de_int ar_nil))) da_nil))))))
 ds_nil)
 (ds_cons (ds_set (i := 3) sc_plane_state.nd rfl (.inl rfl) (PE.fr (ce c_scaled hr (ar_cons (ce c_add hr (ar_cons (dgl g_ONE) (ar_cons (nv 2) ar_nil))) (ar_cons de_int ar_nil)))))
 (ds_cons (ds_set (i := 4) sc_plane_state.nd rfl (.inl rfl) (PE.fr (ce c_scaled hr (ar_cons (ce c_add hr (ar_cons (dgl g_ONE) (ar_cons (ce c_negate hr (ar_cons (nv 2) ar_nil)) ar_nil))) (ar_cons de_int ar_nil)))))
 (ds_one (ds_ret (PE.fr (de_tup (da_cons (nv 3) (da_cons (de_if (t_eq hr (nv 0) (PE.toB de_str)) (ce c_times hr (ar_cons (ce c_unit hr (ar_cons (dgl g_IMAGINARY) ar_nil)) (ar_cons (nv 4) ar_nil))) (nv 4)) da_nil)))))))))), ?_⟩
  subst e
  refine ⟨List.nodup_nil, t, rfl, L rfl, ?_⟩
  have q1 := q_one
  have qw := q_w t
  rcases (show p = 0 ∨ p = 1 ∨ p = 2 by omega) with rfl | rfl | rfl
  · refine ⟨⟨by decide +kernel, by decide +kernel⟩, ?_⟩
    refine ⟨List.nodup_nil, one, 0, 1, rfl, fun y r hy => ?_⟩
    obtain ⟨rfl, rfl⟩ := exF_eq hy
    refine ⟨List.nodup_nil, wp t, 0, 1, rfl, fun y r hy => ?_⟩
    obtain ⟨rfl, rfl⟩ := exF_eq hy
    exact ⟨L rfl, h (exF one (0 + 1)) (exF (wp t) (0 + 1)) ((q_sc 1 (by decide) (by decide) q1).le (by omega)) ((q_sc 1 (by decide) (by decide) qw).le (by omega))⟩
  · refine ⟨⟨by decide +kernel, by decide +kernel⟩, ?_⟩
    refine ⟨List.nodup_nil, one, 0, wp t, 0, rfl, lo1000 (by decide) (by decide), lo1000 (by decide) (by decide), fun y r hy => ?_⟩
    obtain ⟨rfl, rfl⟩ := exF_eq hy
    refine ⟨List.nodup_nil, _, _, 2, rfl, fun y r hy => ?_⟩
    obtain ⟨rfl, rfl⟩ := exF_eq hy
    refine ⟨L rfl, List.nodup_nil, wp t, 0, rfl, ?_⟩
    refine ⟨List.nodup_nil, one, 0, neg (wp t), 0, rfl, lo1000 (by decide) (by decide), lo1000 (by decide) (by decide), fun y r hy => ?_⟩
    obtain ⟨rfl, rfl⟩ := exF_eq hy
    refine ⟨List.nodup_nil, _, _, 2, rfl, fun y r hy => ?_⟩
    obtain ⟨rfl, rfl⟩ := exF_eq hy
    have ql := q_sc 2 (by decide) (by decide) (q_add (by decide) q1 qw)
    have qh := q_sc 2 (by decide) (by decide) (q_add (by decide) q1 (q_neg qw))
    refine ⟨L rfl, ?_⟩
    refine ⟨⟨by decide +kernel, by decide +kernel⟩, ?_⟩
    refine ⟨List.nodup_nil, 2, rfl, ?_⟩
    refine ⟨List.nodup_nil, wp 2, 0, _, _, rfl, (bd_wp 2).mono (L rfl), qh.big (L rfl), fun y r hy => ?_⟩
    obtain ⟨rfl, rfl⟩ := exF_eq hy
    exact ⟨L rfl, h _ _ (ql.le (by omega)) ((q_mul (q_w 2) qh).le (by omega))⟩
  · refine ⟨⟨by decide +kernel, by decide +kernel⟩, ?_⟩
    refine ⟨List.nodup_nil, one, 0, wp t, 0, rfl, lo1000 (by decide) (by decide), lo1000 (by decide) (by decide), fun y r hy => ?_⟩
    obtain ⟨rfl, rfl⟩ := exF_eq hy
    refine ⟨List.nodup_nil, _, _, 2, rfl, fun y r hy => ?_⟩
    obtain ⟨rfl, rfl⟩ := exF_eq hy
    refine ⟨L rfl, List.nodup_nil, wp t, 0, rfl, ?_⟩
    refine ⟨List.nodup_nil, one, 0, neg (wp t), 0, rfl, lo1000 (by decide) (by decide), lo1000 (by decide) (by decide), fun y r hy => ?_⟩
    obtain ⟨rfl, rfl⟩ := exF_eq hy
    refine ⟨List.nodup_nil, _, _, 2, rfl, fun y r hy => ?_⟩
    obtain ⟨rfl, rfl⟩ := exF_eq hy
    have ql := q_sc 2 (by decide) (by decide) (q_add (by decide) q1 qw)
    have qh := q_sc 2 (by decide) (by decide) (q_add (by decide) q1 (q_neg qw))
    refine ⟨L rfl, ?_⟩
    refine ⟨⟨by decide +kernel, by decide +kernel⟩, ?_⟩
    exact ⟨L rfl, h _ _ (ql.le (by omega)) (qh.le (by omega))⟩
/-- the rows without the bit at s, filled -/
def insN (i s : Nat) (b : Bool) : Nat := i / 2 ^ s * 2 ^ (s + 1) + i % 2 ^ s + if b then 2 ^ s else 0
def fnd (qs : List Int) (q : Int) (p : Nat) (t : Int) (ns : Am) : Am := fun i => plL (byL (barL (lo p t)) (ns (insN i (sh qs q) false))) (byL (barL (hi p t)) (ns (insN i (sh qs q) true)))
def remQ (qs : List Int) (q : Int) : List Int := qs.take (qs.idxOf q) ++ qs.drop (qs.idxOf q + 1)
theorem remQ_len {qs : List Int} {q : Int} (h : q ∈ qs) : (remQ qs q).length = qs.length - 1 := by
  have := List.idxOf_lt_length_iff.mpr h
  unfold remQ
  simp
  omega
theorem remQ_filter : ∀ {qs : List Int} {q : Int}, qs.Nodup → q ∈ qs → qs.filter (fun x => !(x == q)) = remQ qs q := by
  intro qs q
  induction qs with
  | nil => intro _ h; cases h
  | cons x xs ih =>
    intro hn hq
    rw [List.nodup_cons] at hn
    by_cases e : x = q
    · subst e
      have : xs.filter (fun y => !(y == x)) = xs := List.filter_eq_self.mpr fun y hy => by
        have : y ≠ x := by rintro rfl; exact hn.1 hy
        simp [this]
      unfold remQ
      simp [this]
    · have hq' : q ∈ xs := by
        rcases List.mem_cons.mp hq with h | h
        · exact absurd h.symm e
        · exact h
      have := ih hn.2 hq'
      unfold remQ at this ⊢
      have ix : (x :: xs).idxOf q = xs.idxOf q + 1 := by rw [List.idxOf_cons, show (x == q) = false by simpa using e]; rfl
      rw [List.filter_cons_of_pos (by simpa using e), this, ix]
      rfl
theorem ins_all : ∀ s : Nat, s < 4 → ∀ i : Nat, i < 8 → (i : Int) / 2 ^ ((s : Nat) : Int).toNat * 2 ^ (((s : Nat) : Int) + 1).toNat + (i : Int) % (1 * 2 ^ ((s : Nat) : Int).toNat) = ((insN i s false : Nat) : Int) := by decide +kernel
theorem ins_tt : ∀ s : Nat, s < 4 → ∀ i : Nat, i < 8 → ((insN i s false : Nat) : Int) + 1 * 2 ^ ((s : Nat) : Int).toNat = ((insN i s true : Nat) : Int) := by decide +kernel
theorem ins_lt : ∀ m : Nat, m < 4 → ∀ s : Nat, s < m + 1 → ∀ i : Nat, i < 2 ^ m → insN i s false < 2 ^ (m + 1) ∧ insN i s true < 2 ^ (m + 1) := by decide +kernel
theorem ins_sh : ∀ s : Nat, s < 4 → ∀ i : Nat, i < 8 → ((i : Int) / 2 ^ ((s : Nat) : Int).toNat).natAbs < 2 ^ 4 := by decide +kernel
theorem half_len {qs : List Int} {q : Int} (h : q ∈ qs) : ((2 ^ qs.length : Nat) : Int) / 2 = ((2 ^ (remQ qs q).length : Nat) : Int) := by
  have := List.length_pos_of_mem h
  rw [remQ_len h]
  obtain ⟨n, hn⟩ : ∃ n, qs.length = n + 1 := ⟨qs.length - 1, by omega⟩
  rw [hn, Nat.add_sub_cancel, Nat.pow_succ]
  omega
noncomputable def prjX (u x : Z4 × Int) : Z4 × Int := exF (mul (conj u.1) x.1) (u.2 + x.2)
noncomputable def prj (qs : List Int) (q : Int) (l h : Z4 × Int) (g : Am) : Am := fun i => addP (prjX l (g (insN i (sh qs q) false))) (prjX h (g (insN i (sh qs q) true)))
theorem q_prj {qs : List Int} {q : Int} {p b : Nat} {t : Int} {g ns : Am} {l h : Z4 × Int} {i : Nat} (hb : b ≤ 20) (ql : Q1 13 l (lo p t)) (qh : Q1 13 h (hi p t)) (x : Q1 b (g (insN i (sh qs q) false)) (ns (insN i (sh qs q) false))) (y : Q1 b (g (insN i (sh qs q) true)) (ns (insN i (sh qs q) true))) :
    Q1 (b + 23) (prjX l (g (insN i (sh qs q) false))) (byL (barL (lo p t)) (ns (insN i (sh qs q) false))) ∧ Q1 (b + 23) (prjX h (g (insN i (sh qs q) true))) (byL (barL (hi p t)) (ns (insN i (sh qs q) true))) ∧ Q1 (b + 24) (prj qs q l h g i) (fnd qs q p t ns i) :=
  have q1 := (q_mul (q_bar ql) x).le (show _ ≤ b + 23 by omega)
  have q2 := (q_mul (q_bar qh) y).le (show _ ≤ b + 23 by omega)
  ⟨q1, q2, q_add (b := b + 23) (by omega) q1 q2⟩
abbrev s_project : Stmt := top 18
 def sp_project : DSp := fun ρs k => ∃ (qs : List Int) (g ns : Am) (b : Nat) (q : Int) (p : Nat) (t : Int), ρs = [.fro (stD qs g), .fro (.int q), .fro (.str (pst p)), .fro (.int t)] ∧ q ∈ qs ∧ qs.Nodup ∧ qs.length ≤ 4 ∧ p < 3 ∧ b ≤ 20 ∧ RR b (2 ^ qs.length) g ns ∧
  ∀ G : Am, RR (b + 24) (2 ^ (remQ qs q).length) G (fnd qs q p t ns) → k (.fro (stD (remQ qs q) G)) ρs
abbrev N_project : List Str := ["state", "qubit", "plane", "turns", "shift", "low", "high", "told", "index", "old", "number", "one"]
theorem sc_project : FnScope N_project ["state", "qubit", "plane", "turns"] (defScope s_project) := ⟨rfl, rfl, rfl, by decide +kernel, rfl, by decide +kernel, by decide +kernel⟩
theorem ok_project (F : Fun K "project" "project" s_project f fd) (c_shift_of : Cal P w K mg base T k "shift_of" ["state", "qubit"] sp_shift_of) (c_conjugate : Cal P w K mg base T k "conjugate" ["number"] sp_conjugate) (c_plane_state : Cal P w K mg base T k "plane_state" ["plane", "turns"] sp_plane_state) (c_add : Cal P w K mg base T k "add" ["one", "other"] sp_add) (c_times : Cal P w K mg base T k "times" ["one", "other"] sp_times) (m_len : mg "len" = none) (m_range : mg "range" = none) (m_tuple : mg "tuple" = none) :
    FnOk P w K mg base CX0 (k + 1) f fd ["state", "qubit", "plane", "turns"] (spD K T sp_project) := by
  refine F.okD T sc_project [] (fun ρs k ⟨qs, g, ns, b, q, p, t, e, hq, hn, hl, hp, hb, hr', h⟩ => by subst e; exact ⟨rfl, rfl⟩) fun cdv A outer s H E B ρs k' hcd0 hr ⟨qs, g, ns, b, q, p, t, e, hq, hn, hl, hp, hb, hr', h⟩ hB => ?_
  refine ⟨_, 
(ds_cons (ds_set (i := 4) sc_project.nd rfl (.inl rfl) (PE.fr (ce c_shift_of hr (ar_cons (nv 0) (ar_cons (nv 1) ar_nil)))))
 (ds_cons (ds_asg (PE.fr (de_lc rfl sc_project.nd (di_row (ce c_plane_state hr (ar_cons (nv 2) (ar_cons (nv 3) ar_nil)))) (blkW N_project (defScope s_project) [("number", 10)] (by decide +kernel)) (fun B s H C cl fp => (dg_name sc_project.nd (i := 10) rfl (.inl rfl))) (fun B s H C cl fp => dts_nil) (fun B s H C cl fp => (ce c_conjugate hr (ar_cons (nv 10) ar_nil))))) (dg_row (n := 2) rfl (dgs_cons (dg_name sc_project.nd (i := 5) rfl (.inl rfl)) (dgs_cons (dg_name sc_project.nd (i := 6) rfl (.inl rfl)) dgs_nil))))
 (ds_cons (ds_set (i := 7) sc_project.nd rfl (.inl rfl) (de_lst da_nil))
 (ds_cons (ds_for PassesOwn.never rfl (di_range1 rfl m_range (PE.toB (de_fdiv (bLen m_len (PE.toB (de_ix (nv 0) (PE.toB de_int)))) (PE.toB de_int)))) (dg_name sc_project.nd (i := 8) rfl (.inl rfl))
 (ds_cons (ds_set (i := 9) sc_project.nd rfl (.inl rfl) (PE.fr (de_add (de_shl (de_shr (nv 8) (nb 4)) (PE.toB (de_add (nv 4) (PE.toB de_int)))) (PE.toB (de_mod (nv 8) (PE.toB (de_shl de_int (nb 4))))))))
 (ds_one (ds_expr (de_append (pv 7) (ce c_add hr (ar_cons (ce c_times hr (ar_cons (nv 5) (ar_cons (de_ix (de_ix (nv 0) (PE.toB de_int)) (nb 9)) ar_nil))) (ar_cons (ce c_times hr (ar_cons (nv 6) (ar_cons (de_ix (de_ix (nv 0) (PE.toB de_int)) (PE.toB (de_add (nv 9) (PE.toB (de_shl de_int (nb 4)))))) ar_nil))) ar_nil))))))))
 (ds_one (ds_ret (PE.fr (de_tup (da_cons (bTuple m_tuple (PE.toB (de_lc rfl sc_project.nd (di_row (de_ix (nv 0) (PE.toB de_int))) (blkW N_project (defScope s_project) [("one", 11)] (by decide +kernel)) (fun B s H C cl fp => (dg_name sc_project.nd (i := 11) rfl (.inl rfl))) (fun B s H C cl fp => (dts_one (t_ne hr (nv 11) (nb 1)))) (fun B s H C cl fp => (nv 11))))) (da_cons (bTuple m_tuple (nb 7)) da_nil)))))))))), ?_⟩
  subst e
  have s1 := sh_lt hq
  have s4 : sh qs q < 4 := by omega
  have t16 := two16 hl
  have rl := remQ_len hq
  refine ⟨List.nodup_nil, qs, g, q, rfl, hq, L rfl, ?_⟩
  refine ⟨List.nodup_nil, p, t, rfl, hp, fun l hh ql qh => ?_⟩
  refine ⟨_, rfl, ?_⟩
  refine lc_all [l, hh] (fun u => t5 u.1 u.2) (fun u => t5 (conj u.1) u.2) rfl (L rfl) (fun u hu yes no hy => ⟨L rfl, List.nodup_nil, u.1, u.2, rfl, hy _ rfl⟩) ?_
  refine ⟨_, rfl, rfl, L rfl, L rfl, ?_⟩
  refine ⟨L rfl, L rfl, _, rfl, wide_div (b := 3) (by decide) (by decide) (by decide) (by decide), ?_⟩
  show (_ ∧ _) ∧ _ ∧ (∃ I : Nat → Ge → Prop, _)
  dsimp only
  rw [rng_len, half_len hq, rngD_nat]
  have m8 : 2 ^ (remQ qs q).length ≤ 8 := by
    rw [rl]; exact Nat.le_trans (Nat.pow_le_pow_right (by decide) (show qs.length - 1 ≤ 3 by omega)) (by decide)
  refine ⟨rngOk (by omega), rfl, ?_⟩
  let G : Nat → Option Rv → Option Rv → Ge := fun i x y => [some (.fro (stD qs g)), some (.fro (.int q)), some (.fro (.str (pst p))), some (.fro (.int t)), some (.fro (.int ((sh qs q : Nat) : Int))), some (.fro (t5 (conj l.1) l.2)), some (.fro (t5 (conj hh.1) hh.2)), some (.lst ((List.range i).map fun i => t5 (prj qs q l hh g i).1 (prj qs q l hh g i).2)), x, y, none, none]
  have qp : ∀ i, i < 2 ^ (remQ qs q).length → _ := fun i hi => by
    have i8 : i < 8 := Nat.lt_of_lt_of_le hi m8
    have il := ins_lt (remQ qs q).length (by omega) (sh qs q) (by omega) i hi
    rw [show (remQ qs q).length + 1 = qs.length by omega] at il
    exact And.intro il (q_prj hb ql qh (hr' _ il.1) (hr' _ il.2))
  refine ⟨fun i Γ => ∃ x y, Γ = G i x y, ⟨none, none, rfl⟩, ?_, ?_⟩
  · rintro i d _ hd ⟨x, y, rfl⟩
    obtain ⟨hi, rfl⟩ := rng_mget hd
    have i8 : i < 8 := Nat.lt_of_lt_of_le hi m8
    obtain ⟨⟨i1, i2⟩, q1, q2, q3⟩ := qp i hi
    have x1 := hr' _ i1
    have x2 := hr' _ i2
    have ia := ins_all _ s4 _ i8
    refine ⟨L rfl, by show (0 : Int) ≤ ((sh qs q : Nat) : Int); omega, (by have z := shl_ok (n := 4) (j := sh qs q + 1) (ins_sh _ s4 _ i8) (by omega); push_cast at z; exact z), shl1 s4, pos_all _ s4, L rfl, ?_⟩
    refine ⟨_, rfl, _, rng_at ia i1, ?_⟩
    refine ⟨List.nodup_nil, conj l.1, l.2, (g (insN i (sh qs q) false)).1, (g (insN i (sh qs q) false)).2, rfl, (bd_conj ql.bu).mono (by omega), x1.big (by omega), fun z r hz => ?_⟩
    obtain ⟨rfl, rfl⟩ := exF_eq hz
    refine ⟨_, rfl, shl1 s4, _, rng_at (by rw [ia]; exact ins_tt _ s4 _ i8) i2, ?_⟩
    refine ⟨List.nodup_nil, conj hh.1, hh.2, (g (insN i (sh qs q) true)).1, (g (insN i (sh qs q) true)).2, rfl, (bd_conj qh.bu).mono (by omega), x2.big (by omega), fun z r hz => ?_⟩
    obtain ⟨rfl, rfl⟩ := exF_eq hz
    refine ⟨List.nodup_nil, _, _, _, _, rfl, q1.lo1 (by omega), q2.lo1 (by omega), fun z r hz => ?_⟩
    obtain ⟨rfl, rfl⟩ := exF_eq hz
    have fin : ∀ (d : D) (z : Option Rv), d = t5 (prj qs q l hh g i).1 (prj qs q l hh g i).2 → ∃ x y, ([some (.fro (stD qs g)), some (.fro (.int q)), some (.fro (.str (pst p))), some (.fro (.int t)), some (.fro (.int ((sh qs q : Nat) : Int))), some (.fro (t5 (conj l.1) l.2)), some (.fro (t5 (conj hh.1) hh.2)), some (.lst (((List.range i).map fun i => t5 (prj qs q l hh g i).1 (prj qs q l hh g i).2) ++ [d])), some (.fro (.int ((i : Nat) : Int))), z, none, none] : Ge) = G (i + 1) x y := by
      rintro d z rfl
      exact ⟨_, _, by first | (rw [← rng_snoc]; done) | (rw [← rng_snoc]; rfl)⟩
    exact ⟨by rw [rng_len]; omega, fin _ _ rfl⟩
  · rintro _ ⟨x, y, rfl⟩
    rw [rng_len]
    refine ⟨_, rfl, _, rfl, ?_⟩
    refine lc_if qs .int .int (fun x => !(x == q)) rfl (by omega) (fun x hx yes no hy hn => ?_) ?_
    · refine ⟨L rfl, ⟨rfl, rfl⟩, ?_⟩
      refine mB (fun z1 => ?_) (fun z1 => ?_)
      · exact hy z1 _ rfl
      · exact hn z1 _ rfl
    · rw [remQ_filter hn hq]
      refine ⟨L rfl, ?_⟩
      exact h (prj qs q l hh g) fun i hi => (qp i hi).2.2.2
end
end K73
set_option Elab.async false
set_option linter.all false
set_option maxRecDepth 100000
set_option maxHeartbeats 4000000
namespace K73
open PySem PySem.Spec PyProof.Rows L2 Dn Zw
theorem pl_bd {p : Nat} (t : Int) (hp : p < 3) : (Bd 100 (lo p t).1 ∧ 0 ≤ (lo p t).2 ∧ (lo p t).2 ≤ 5) ∧ (Bd 100 (hi p t).1 ∧ 0 ≤ (hi p t).2 ∧ (hi p t).2 ≤ 5) := by
  have b0 : Bd 1 one := bd_wp 0
  have bw := bd_wp t
  have bi : Bd 1 ii := bd_wp 2
  have r1 : ∀ {x : Z4}, Bd 1 x → Bd 3 (rootx 1 x) := fun h => (bd_rtn h _).mono (L rfl)
  have r2 : ∀ {x : Z4}, Bd 10 x → Bd 12 (rootx 2 x) := fun h => (bd_rtn h _).mono (L rfl)
  have pp : ∀ {y : Z4}, Bd 1 y → Bd 10 (plus one (2 * 0) y (2 * 0)) := fun h => (bd_add (n := 5) ((bd_rtn b0 _).mono (L rfl)) ((bd_rtn h _).mono (L rfl))).mono (L rfl)
  rcases (show p = 0 ∨ p = 1 ∨ p = 2 by omega) with rfl | rfl | rfl
  · exact ⟨⟨(r1 b0).mono (L rfl), by show (0 : Int) ≤ 1; decide, by show (1 : Int) ≤ 5; decide⟩, ⟨(r1 bw).mono (L rfl), by show (0 : Int) ≤ 1; decide, by show (1 : Int) ≤ 5; decide⟩⟩
  · exact ⟨⟨(r2 (pp bw)).mono (L rfl), by show (0 : Int) ≤ 2; decide, by show (2 : Int) ≤ 5; decide⟩, ⟨(bd_mul bi (r2 (pp (bd_neg bw)))).mono (L rfl), by show (0 : Int) ≤ 2; decide, by show (2 : Int) ≤ 5; decide⟩⟩
  · exact ⟨⟨(r2 (pp bw)).mono (L rfl), by show (0 : Int) ≤ 2; decide, by show (2 : Int) ≤ 5; decide⟩, ⟨(r2 (pp (bd_neg bw))).mono (L rfl), by show (0 : Int) ≤ 2; decide, by show (2 : Int) ≤ 5; decide⟩⟩
section
variable {P : Program} {w : World} {K : PySem.W.Frag} {mg : Str → Option Value} {base : Heap} {T : Addr → Prop} {f : Addr} {fd : FuncData} {c Pt : Addr} {k : Nat}
abbrev s__law_plane : Stmt := top 37
 def sp__law_plane : DSp := fun ρs k => ∃ (p : Nat) (t : Int), ρs = [.fro (.str (pst p)), .fro (.int t)] ∧ p < 3 ∧ k (.fro (.tuple [nuD (lo p t), nuD (hi p t)])) ρs
abbrev N__law_plane : List Str := ["plane", "turns", "one", "w", "low", "high"]
theorem sc__law_plane : FnScope N__law_plane ["plane", "turns"] (defScope s__law_plane) := ⟨rfl, rfl, rfl, by decide +kernel, rfl, by decide +kernel, by decide +kernel⟩
theorem ok__law_plane (F : Fun K "_law_plane" "_law_plane" s__law_plane f fd) (c__law_w : Cal P w K mg base T k "_law_w" ["turns"] sp__law_w) (c__law_root : Cal P w K mg base T k "_law_root" ["number", "power"] sp__law_root) (c__law_plus : Cal P w K mg base T k "_law_plus" ["one", "other"] sp__law_plus) (c__law_by : Cal P w K mg base T k "_law_by" ["one", "other"] sp__law_by) (c__law_minus : Cal P w K mg base T k "_law_minus" ["one"] sp__law_minus) :
    FnOk P w K mg base CX0 (k + 1) f fd ["plane", "turns"] (spD K T sp__law_plane) := by
  refine F.okD T sc__law_plane [] (fun ρs k ⟨p, t, e, hp, h⟩ => by subst e; exact ⟨rfl, rfl⟩) fun cdv A outer s H E B ρs k' hcd0 hr ⟨p, t, e, hp, h⟩ hB => ?_
  refine ⟨_, 
(ds_cons (ds_par (i := 2) (j := 3) rfl sc__law_plane.nd rfl rfl (by decide) rfl rfl (da_cons (de_tup (da_cons (de_lst (da_cons de_int (da_cons de_int (da_cons de_int (da_cons de_int da_nil))))) (da_cons de_int da_nil))) (da_cons (ce c__law_w hr (ar_cons (nv 1) ar_nil)) da_nil)) rfl)
 (ds_cons (ds_if (t_eq hr (nv 0) (PE.toB de_str))
 (ds_one (ds_ret (PE.fr (de_tup (da_cons (ce c__law_root hr (ar_cons (nv 2) (ar_cons de_int ar_nil))) (da_cons (ce c__law_root hr (ar_cons (nv 3) (ar_cons de_int ar_nil))) da_nil))))))
 ds_nil)
 (ds_cons (ds_par (i := 4) (j := 5) rfl sc__law_plane.nd rfl rfl (by decide) rfl rfl (da_cons (ce c__law_root hr (ar_cons (ce c__law_plus hr (ar_cons (nv 2) (ar_cons (nv 3) ar_nil))) (ar_cons de_int ar_nil))) (da_cons (ce c__law_root hr (ar_cons (ce c__law_plus hr (ar_cons (nv 2) (ar_cons (ce c__law_minus hr (ar_cons (nv 3) ar_nil)) ar_nil))) (ar_cons de_int ar_nil))) da_nil)) rfl)
 (ds_one (ds_ret (PE.fr (de_tup (da_cons (nv 4) (da_cons (de_if (t_eq hr (nv 0) (PE.toB de_str)) (ce c__law_by hr (ar_cons (de_tup (da_cons (de_lst (da_cons de_int (da_cons de_int (da_cons de_int (da_cons de_int da_nil))))) (da_cons de_int da_nil))) (ar_cons (nv 5) ar_nil))) (nv 5)) da_nil))))))))), ?_⟩
  subst e
  have b0 : Bd 1 one := bd_wp 0
  have bw := bd_wp t
  have pp : ∀ {y : Z4}, Bd 1 y → Bd 10 (plus one (2 * 0) y (2 * 0)) := fun h => (bd_add (n := 5) ((bd_rtn b0 _).mono (L rfl)) ((bd_rtn h _).mono (L rfl))).mono (L rfl)
  refine ⟨L rfl, L rfl, ?_⟩
  refine ⟨List.nodup_nil, t, rfl, ⟨L rfl, L rfl⟩, ?_⟩
  rcases (show p = 0 ∨ p = 1 ∨ p = 2 by omega) with rfl | rfl | rfl
  · refine ⟨⟨by decide +kernel, by decide +kernel⟩, ?_⟩
    refine ⟨List.nodup_nil, one, 0, 1, rfl, b0.mono (L rfl), by decide, by decide, ?_⟩
    refine ⟨List.nodup_nil, wp t, 0, 1, rfl, bw.mono (L rfl), by decide, by decide, ?_⟩
    exact ⟨L rfl, h⟩
  · refine ⟨⟨by decide +kernel, by decide +kernel⟩, ?_⟩
    refine ⟨List.nodup_nil, one, 0, wp t, 0, rfl, b0.mono (L rfl), bw.mono (L rfl), ⟨by decide, by decide⟩, ⟨by decide, by decide⟩, ?_⟩
    refine ⟨List.nodup_nil, _, _, 2, rfl, (pp bw).mono (L rfl), by decide, by decide, ?_⟩
    refine ⟨List.nodup_nil, wp t, 0, rfl, ?_⟩
    refine ⟨List.nodup_nil, one, 0, neg (wp t), 0, rfl, b0.mono (L rfl), (bd_neg bw).mono (L rfl), ⟨by decide, by decide⟩, ⟨by decide, by decide⟩, ?_⟩
    refine ⟨List.nodup_nil, _, _, 2, rfl, (pp (bd_neg bw)).mono (L rfl), by decide, by decide, ?_⟩
    refine ⟨⟨L rfl, L rfl⟩, ?_⟩
    refine ⟨⟨by decide +kernel, by decide +kernel⟩, ?_⟩
    refine ⟨L rfl, L rfl, ?_⟩
    refine ⟨List.nodup_nil, ii, 0, (rootN 2 (plL oneL (negP (wL t)))).1, (rootN 2 (plL oneL (negP (wL t)))).2, rfl, (show Bd 1 ii from bd_wp 2).mono (L rfl), (pl_bd t (show 2 < 3 by decide)).2.1.mono (L rfl), ?_⟩
    exact ⟨L rfl, h⟩
  · refine ⟨⟨by decide +kernel, by decide +kernel⟩, ?_⟩
    refine ⟨List.nodup_nil, one, 0, wp t, 0, rfl, b0.mono (L rfl), bw.mono (L rfl), ⟨by decide, by decide⟩, ⟨by decide, by decide⟩, ?_⟩
    refine ⟨List.nodup_nil, _, _, 2, rfl, (pp bw).mono (L rfl), by decide, by decide, ?_⟩
    refine ⟨List.nodup_nil, wp t, 0, rfl, ?_⟩
    refine ⟨List.nodup_nil, one, 0, neg (wp t), 0, rfl, b0.mono (L rfl), (bd_neg bw).mono (L rfl), ⟨by decide, by decide⟩, ⟨by decide, by decide⟩, ?_⟩
    refine ⟨List.nodup_nil, _, _, 2, rfl, (pp (bd_neg bw)).mono (L rfl), by decide, by decide, ?_⟩
    refine ⟨⟨L rfl, L rfl⟩, ?_⟩
    refine ⟨⟨by decide +kernel, by decide +kernel⟩, ?_⟩
    exact ⟨L rfl, h⟩
theorem ins_fig : ∀ m : Nat, m < 4 → ∀ a : Nat, a < m + 1 → ∀ i : Nat, i < 2 ^ m → (fig m i).take a ++ [0] ++ (fig m i).drop a = fig (m + 1) (insN i (m - a) false) ∧ (fig m i).take a ++ [1] ++ (fig m i).drop a = fig (m + 1) (insN i (m - a) true) := by decide +kernel
abbrev s__law_found : Stmt := top 38
 def sp__law_found : DSp := fun ρs k => ∃ (qs : List Int) (ns : Am) (q : Int) (p : Nat) (t : Int), ρs = [.fro (fiD qs ns), .fro (.int q), .fro (.str (pst p)), .fro (.int t)] ∧ q ∈ qs ∧ qs.length ≤ 4 ∧ p < 3 ∧ GdL (2 ^ qs.length) ns ∧ k (.fro (fiD (remQ qs q) (fnd qs q p t ns))) ρs
abbrev N__law_found : List Str := ["field", "qubit", "plane", "turns", "qubits", "numbers", "at", "low", "high", "out", "row", "x", "y"]
theorem sc__law_found : FnScope N__law_found ["field", "qubit", "plane", "turns"] (defScope s__law_found) := ⟨rfl, rfl, rfl, by decide +kernel, rfl, by decide +kernel, by decide +kernel⟩
theorem ok__law_found (F : Fun K "_law_found" "_law_found" s__law_found f fd) (c__law_plane : Cal P w K mg base T k "_law_plane" ["plane", "turns"] sp__law_plane) (c__law_figures : Cal P w K mg base T k "_law_figures" ["many"] sp__law_figures) (c__law_plus : Cal P w K mg base T k "_law_plus" ["one", "other"] sp__law_plus) (c__law_by : Cal P w K mg base T k "_law_by" ["one", "other"] sp__law_by) (c__law_bar : Cal P w K mg base T k "_law_bar" ["one"] sp__law_bar) (m_len : mg "len" = none) :
    FnOk P w K mg base CX0 (k + 1) f fd ["field", "qubit", "plane", "turns"] (spD K T sp__law_found) := by
  refine F.okD T sc__law_found [] (fun ρs k ⟨qs, ns, q, p, t, e, hq, hl, hp, hg, h⟩ => by subst e; exact ⟨rfl, rfl⟩) fun cdv A outer s H E B ρs k' hcd0 hr ⟨qs, ns, q, p, t, e, hq, hl, hp, hg, h⟩ hB => ?_
  refine ⟨_, 
(ds_cons (ds_asg (nv 0) (dg_row (n := 2) rfl (dgs_cons (dg_name sc__law_found.nd (i := 4) rfl (.inl rfl)) (dgs_cons (dg_name sc__law_found.nd (i := 5) rfl (.inl rfl)) dgs_nil))))
 (ds_cons (ds_set (i := 6) sc__law_found.nd rfl (.inl rfl) (PE.fr (de_tidx (nv 4) (nv 1))))
 (ds_cons (ds_asg (ce c__law_plane hr (ar_cons (nv 2) (ar_cons (nv 3) ar_nil))) (dg_row (n := 2) rfl (dgs_cons (dg_name sc__law_found.nd (i := 7) rfl (.inl rfl)) (dgs_cons (dg_name sc__law_found.nd (i := 8) rfl (.inl rfl)) dgs_nil))))
 (ds_cons (ds_set (i := 9) sc__law_found.nd rfl (.inl rfl) de_newT)
 (ds_cons (ds_for PassesOwn.never rfl (di_row (ce c__law_figures hr (ar_cons (de_sub (bLen m_len (nb 4)) (PE.toB de_int)) ar_nil))) (dg_name sc__law_found.nd (i := 10) rfl (.inl rfl))
 (ds_cons (ds_par (i := 11) (j := 12) rfl sc__law_found.nd rfl rfl (by decide) rfl rfl (da_cons (de_ixA hr (nv 5) (PE.toB (de_add (de_add (de_slice (nv 10) do_none (do_some (nb 6))) (PE.toB (de_tup (da_cons de_int da_nil)))) (PE.toB (de_slice (nv 10) (do_some (nb 6)) do_none))))) (da_cons (de_ixA hr (nv 5) (PE.toB (de_add (de_add (de_slice (nv 10) do_none (do_some (nb 6))) (PE.toB (de_tup (da_cons de_int da_nil)))) (PE.toB (de_slice (nv 10) (do_some (nb 6)) do_none))))) da_nil)) rfl)
 (ds_one (ds_put hr (pv 9) (ce c__law_plus hr (ar_cons (ce c__law_by hr (ar_cons (ce c__law_bar hr (ar_cons (nv 7) ar_nil)) (ar_cons (nv 11) ar_nil))) (ar_cons (ce c__law_by hr (ar_cons (ce c__law_bar hr (ar_cons (nv 8) ar_nil)) (ar_cons (nv 12) ar_nil))) ar_nil))) (nb 10)))))
 (ds_one (ds_ret (PE.fr (de_tup (da_cons (de_add (de_slice (nv 4) do_none (do_some (nb 6))) (PE.toB (de_slice (nv 4) (do_some (PE.toB (de_add (nv 6) (PE.toB de_int)))) do_none))) (da_cons (PE.frd (PE.movVar (pv 9) hB)) da_nil))))))))))), ?_⟩
  subst e
  have rl := remQ_len hq
  have ha := List.idxOf_lt_length_iff.mpr hq
  have s1 := sh_lt hq
  have s4 : sh qs q < 4 := by omega
  have t16 := two16 hl
  have r4 : (remQ qs q).length < 4 := by omega
  have rn : (remQ qs q).length + 1 = qs.length := by omega
  have ⟨⟨lb, l0, l9⟩, ⟨hb, h0, h9⟩⟩ := pl_bd t hp
  refine ⟨_, rfl, rfl, L rfl, L rfl, ?_⟩
  refine ⟨rfl, qs, intsD_of qs, hq, L rfl, ?_⟩
  refine ⟨List.nodup_nil, p, t, rfl, hp, _, rfl, rfl, L rfl, L rfl, ?_⟩
  refine ⟨L rfl, List.nodup_nil, (remQ qs q).length, by show [Rv.fro (.int ((((qs.map PyData.int).length : Nat) : Int) - 1))] = _; rw [List.length_map, ← rn]; push_cast; rw [Int.add_sub_cancel], by omega, ?_⟩
  let G : Nat → Option Rv → Option Rv → Option Rv → Ge := fun i x y z => [some (.fro (fiD qs ns)), some (.fro (.int q)), some (.fro (.str (pst p))), some (.fro (.int t)), some (.fro (dI qs)), some (.fro (.dict (fkv qs.length ns (2 ^ qs.length)))), some (.fro (.int ((qs.idxOf q : Nat) : Int))), some (.fro (nuD (lo p t))), some (.fro (nuD (hi p t))), some (.dtt (fkv (remQ qs q).length (fnd qs q p t ns) i)), x, y, z]
  refine ⟨_, rfl, rfl, fun i Γ => ∃ x y z, Γ = G i x y z, ⟨none, none, none, rfl⟩, ?_, ?_⟩
  · rintro i d _ hd ⟨x, y, z, rfl⟩
    rw [rowsD_eq (by omega)] at hd
    obtain ⟨hi', rfl⟩ := rng_mget hd
    have fl := fig_len _ (by omega) _ hi'
    obtain ⟨i1, i2⟩ := ins_lt _ r4 (sh qs q) (by omega) i hi'
    obtain ⟨f1, f2⟩ := ins_fig _ r4 (qs.idxOf q) (by omega) i hi'
    have es : (remQ qs q).length - qs.idxOf q = sh qs q := by unfold sh; omega
    rw [es] at f1 f2
    rw [rn] at i1 i2 f1 f2
    have key : ∀ (v : Int) (j : Nat), (fig (remQ qs q).length i).take (qs.idxOf q) ++ [v] ++ (fig (remQ qs q).length i).drop (qs.idxOf q) = fig qs.length j → j < 2 ^ qs.length →
        (cutD ((fig (remQ qs q).length i).map PyData.int) none (some ((qs.idxOf q : Nat) : Int))).length + [PyData.int v].length ≤ sizeLine ∧
        (cutD ((fig (remQ qs q).length i).map PyData.int) none (some ((qs.idxOf q : Nat) : Int)) ++ [PyData.int v]).length + (cutD ((fig (remQ qs q).length i).map PyData.int) (some ((qs.idxOf q : Nat) : Int)) none).length ≤ sizeLine ∧
        (fkv qs.length ns (2 ^ qs.length))[j]? = some (.tuple (cutD ((fig (remQ qs q).length i).map PyData.int) none (some ((qs.idxOf q : Nat) : Int)) ++ [PyData.int v] ++ cutD ((fig (remQ qs q).length i).map PyData.int) (some ((qs.idxOf q : Nat) : Int)) none), nuD (ns j)) := fun v j e hj => by
      have k : cutD ((fig (remQ qs q).length i).map PyData.int) none (some ((qs.idxOf q : Nat) : Int)) ++ [PyData.int v] ++ cutD ((fig (remQ qs q).length i).map PyData.int) (some ((qs.idxOf q : Nat) : Int)) none = (fig qs.length j).map PyData.int := by
        rw [cut_to' rfl (by rw [List.length_map]; omega), cut_from' rfl (by rw [List.length_map]; omega), ← e]
        simp [List.map_take, List.map_drop]
      have fl2 := fig_len qs.length (by omega) _ hj
      have kl := congrArg List.length k
      rw [List.length_map, fl2, List.length_append] at kl
      have kl2 := kl
      rw [List.length_append] at kl2
      refine ⟨by rw [sizeLine_eq]; omega, by rw [sizeLine_eq]; omega, ?_⟩
      rw [k]
      exact fkv_get hj
    obtain ⟨a1, a2, a3⟩ := key 0 _ f1 i1
    obtain ⟨c1, c2, c3⟩ := key 1 _ f2 i2
    obtain ⟨x1, x2, x3⟩ := hg _ i1
    obtain ⟨y1, y2, y3⟩ := hg _ i2
    refine ⟨L rfl, L rfl, a1, a2, _, _, a3, ?_⟩
    refine ⟨L rfl, c1, c2, _, _, c3, ?_⟩
    refine ⟨⟨L rfl, L rfl⟩, ?_⟩
    refine ⟨List.nodup_nil, (lo p t).1, (lo p t).2, rfl, ?_⟩
    refine ⟨List.nodup_nil, conj (lo p t).1, (lo p t).2, (ns (insN i (sh qs q) false)).1, (ns (insN i (sh qs q) false)).2, rfl, (bd_conj lb).mono (by omega), x1.mono (by omega), ?_⟩
    refine ⟨List.nodup_nil, (hi p t).1, (hi p t).2, rfl, ?_⟩
    refine ⟨List.nodup_nil, conj (hi p t).1, (hi p t).2, (ns (insN i (sh qs q) true)).1, (ns (insN i (sh qs q) true)).2, rfl, (bd_conj hb).mono (by omega), y1.mono (by omega), ?_⟩
    refine ⟨List.nodup_nil, _, _, _, _, rfl, (bd_mul (bd_conj lb) x1).mono (by omega), (bd_mul (bd_conj hb) y1).mono (by omega), ⟨by omega, by omega⟩, ⟨by omega, by omega⟩, ?_⟩
    exact fkv_put (by omega) hi' rfl ⟨_, _, _, rfl⟩
  · rintro _ ⟨x, y, z, rfl⟩
    rw [List.length_map, figs_len _ (by omega)]
    have k : cutD (qs.map PyData.int) none (some ((qs.idxOf q : Nat) : Int)) ++ cutD (qs.map PyData.int) (some (((qs.idxOf q : Nat) : Int) + 1)) none = (remQ qs q).map PyData.int := by
      rw [cut_to' rfl (by rw [List.length_map]; omega), cut_from' (k := qs.idxOf q + 1) (by omega) (by rw [List.length_map]; omega)]
      unfold remQ
      simp [List.map_take, List.map_drop]
    have kl := congrArg List.length k
    rw [List.length_append, List.length_map] at kl
    refine ⟨by rw [sizeLine_eq]; omega, L rfl, ?_⟩
    rw [k]
    exact h
def sumL (vs : List (Z4 × Int)) : Z4 × Int := vs.foldl (fun tot v => plL tot (byL v (barL v))) (zero, 0)
theorem sumL_snoc (vs : List (Z4 × Int)) (v : Z4 × Int) : sumL (vs ++ [v]) = plL (sumL vs) (byL v (barL v)) := by unfold sumL; rw [List.foldl_append]; rfl
theorem sum_take {vs : List (Z4 × Int)} {i : Nat} {v : Z4 × Int} (h : vs[i]? = some v) : sumL (vs.take (i + 1)) = plL (sumL (vs.take i)) (byL v (barL v)) := by
  rw [List.take_add_one, h]
  exact sumL_snoc _ _
def SmL (v : Z4 × Int) : Prop := Bd 100000 v.1 ∧ 0 ≤ v.2 ∧ v.2 ≤ 100
theorem sum_bd {vs : List (Z4 × Int)} (h : ∀ v ∈ vs, SmL v) : ∀ i, i ≤ vs.length → Bd (200010 + 801 * i) (sumL (vs.take i)).1 ∧ 0 ≤ (sumL (vs.take i)).2 ∧ (sumL (vs.take i)).2 ≤ 200 := by
  intro i
  induction i with
  | zero => intro _; exact ⟨bd_zero _, by show (0 : Int) ≤ 0; decide, by show (0 : Int) ≤ 200; decide⟩
  | succ i ih =>
    intro hi
    obtain ⟨b1, b2, b3⟩ := ih (by omega)
    have e := List.getElem?_eq_getElem (show i < vs.length by omega)
    obtain ⟨v1, v2, v3⟩ := h _ (List.getElem_mem (show i < vs.length by omega))
    rw [sum_take e]
    generalize vs[i] = v at v1 v2 v3
    refine ⟨(bd_plL (n := 200010 + 801 * i) b1 ((bd_mul v1 (bd_conj v1)).mono (by omega)) b2 (by omega) ?_ ?_).mono (by omega), ?_, ?_⟩
    · show 0 ≤ v.2 + v.2; omega
    · show v.2 + v.2 ≤ _; omega
    · show 0 ≤ max _ (v.2 + v.2); omega
    · show max _ (v.2 + v.2) ≤ _; omega
abbrev s__law_sum : Stmt := top 44
 def sp__law_sum : DSp := fun ρs k => ∃ (d : D) (vs : List (Z4 × Int)), ρs = [.fro d] ∧ rowD d = some (vs.map nuD) ∧ vs.length ≤ 64 ∧ (∀ v ∈ vs, SmL v) ∧ k (.fro (nuD (sumL vs))) ρs
abbrev N__law_sum : List Str := ["row", "total", "one"]
theorem sc__law_sum : FnScope N__law_sum ["row"] (defScope s__law_sum) := ⟨rfl, rfl, rfl, by decide +kernel, rfl, by decide +kernel, by decide +kernel⟩
theorem ok__law_sum (F : Fun K "_law_sum" "_law_sum" s__law_sum f fd) (c__law_plus : Cal P w K mg base T k "_law_plus" ["one", "other"] sp__law_plus) (c__law_by : Cal P w K mg base T k "_law_by" ["one", "other"] sp__law_by) (c__law_bar : Cal P w K mg base T k "_law_bar" ["one"] sp__law_bar) :
    FnOk P w K mg base CX0 (k + 1) f fd ["row"] (spD K T sp__law_sum) := by
  refine F.okD T sc__law_sum [] (fun ρs k ⟨d, vs, e, hd, hl, hv, h⟩ => by subst e; exact ⟨rfl, rfl⟩) fun cdv A outer s H E B ρs k' hcd0 hr ⟨d, vs, e, hd, hl, hv, h⟩ hB => ?_
  refine ⟨_, 
(ds_cons (ds_set (i := 1) sc__law_sum.nd rfl (.inl rfl) (PE.fr (de_tup (da_cons (de_lst (da_cons de_int (da_cons de_int (da_cons de_int (da_cons de_int da_nil))))) (da_cons de_int da_nil)))))
 (ds_cons (ds_for PassesOwn.never rfl (di_row (nv 0)) (dg_name sc__law_sum.nd (i := 2) rfl (.inl rfl))
 (ds_one (ds_set (i := 1) sc__law_sum.nd rfl (.inl rfl) (PE.fr (ce c__law_plus hr (ar_cons (nv 1) (ar_cons (ce c__law_by hr (ar_cons (nv 2) (ar_cons (ce c__law_bar hr (ar_cons (nv 2) ar_nil)) ar_nil))) ar_nil)))))))
 (ds_one (ds_ret (PE.fr (nv 1)))))), ?_⟩
  subst e
  refine ⟨L rfl, L rfl, L rfl, ?_⟩
  refine ⟨_, hd, rfl, ?_⟩
  refine ⟨fun i Γ => i ≤ vs.length ∧ ∃ z, Γ = [some (.fro d), some (.fro (nuD (sumL (vs.take i)))), z], ⟨Nat.zero_le _, none, rfl⟩, ?_, ?_⟩
  · rintro i d' _ hd' ⟨hi, z, rfl⟩
    obtain ⟨v, hv', rfl⟩ := map_get hd'
    obtain ⟨b1, b2, b3⟩ := sum_bd hv i hi
    obtain ⟨v1, v2, v3⟩ := hv v (List.mem_of_getElem? hv')
    have hi' := getElem?_len hv'
    refine ⟨L rfl, ?_⟩
    refine ⟨List.nodup_nil, v.1, v.2, rfl, ?_⟩
    refine ⟨List.nodup_nil, v.1, v.2, conj v.1, v.2, rfl, v1.mono (by omega), (bd_conj v1).mono (by omega), ?_⟩
    refine ⟨List.nodup_nil, _, _, _, _, rfl, b1.mono (by omega), (bd_mul v1 (bd_conj v1)).mono (by omega), ⟨b2, by omega⟩, ⟨by omega, by omega⟩, ?_⟩
    refine ⟨L rfl, by omega, some (.fro (nuD v)), ?_⟩
    rw [sum_take hv']
    rfl
  · rintro _ ⟨hi, z, rfl⟩
    rw [List.length_map, List.take_length]
    exact h
abbrev s__law_unit_alike : Stmt := top 41
 def sp__law_unit_alike : DSp := fun ρs k => ∃ (us vs : List (Z4 × Int)) (j : Nat), ρs = [.fro (.list (us.map nuD)), .fro (.list (vs.map nuD))] ∧ us.length = vs.length ∧ us.length ≤ 64 ∧ (∀ v ∈ us, SmL v) ∧ (∀ v ∈ vs, SmL v) ∧ j < 8 ∧
  (∀ (i : Nat) u v, us[i]? = some u → vs[i]? = some v → Eqv (mul (wp ((j : Nat) : Int)) u.1) (2 * (0 + u.2)) v.1 (2 * v.2)) ∧ k (.fro (.bool true)) ρs
abbrev N__law_unit_alike : List Str := ["one", "other", "turns", "k"]
theorem sc__law_unit_alike : FnScope N__law_unit_alike ["one", "other"] (defScope s__law_unit_alike) := ⟨rfl, rfl, rfl, by decide +kernel, rfl, by decide +kernel, by decide +kernel⟩
theorem ok__law_unit_alike (F : Fun K "_law_unit_alike" "_law_unit_alike" s__law_unit_alike f fd) (c__law_like : Cal P w K mg base T k "_law_like" ["one", "other"] sp__law_like) (c__law_by : Cal P w K mg base T k "_law_by" ["one", "other"] sp__law_by) (c__law_w : Cal P w K mg base T k "_law_w" ["turns"] sp__law_w) (m_all : mg "all" = none) (m_len : mg "len" = none) (m_range : mg "range" = none) :
    FnOk P w K mg base CX0 (k + 1) f fd ["one", "other"] (spD K T sp__law_unit_alike) := by
  refine F.okD T sc__law_unit_alike [] (fun ρs k ⟨us, vs, j, e, hl, hl2, hu, hv, hj, hh, h⟩ => by subst e; exact ⟨rfl, rfl⟩) fun cdv A outer s H E B ρs k' hcd0 hr ⟨us, vs, j, e, hl, hl2, hu, hv, hj, hh, h⟩ hB => ?_
  refine ⟨_, 
(ds_cons (ds_for PassesOwn.never rfl (di_range1 rfl m_range (PE.toB de_int)) (dg_name sc__law_unit_alike.nd (i := 2) rfl (.inr rfl))
 (ds_one (ds_if (tst (bAll rfl m_all (PE.toB (de_lc rfl sc__law_unit_alike.nd (di_range1 rfl m_range (PE.toB (bLen m_len (nb 0)))) (blkW N__law_unit_alike (defScope s__law_unit_alike) [("k", 3)] (by decide +kernel)) (fun B s H C cl fp => (dg_name sc__law_unit_alike.nd (i := 3) rfl (.inl rfl))) (fun B s H C cl fp => dts_nil) (fun B s H C cl fp => (ce c__law_like hr (ar_cons (ce c__law_by hr (ar_cons (ce c__law_w hr (ar_cons (nv 2) ar_nil)) (ar_cons (de_ix (nv 0) (nb 3)) ar_nil))) (ar_cons (de_ix (nv 1) (nb 3)) ar_nil))))))))
 (ds_one (ds_ret (PE.fr de_bl)))
 ds_nil)))
 (ds_one (ds_ret (PE.fr de_bl)))), ?_⟩
  subst e
  refine ⟨⟨by decide, by decide⟩, rfl, ?_⟩
  refine ⟨fun i Γ => i ≤ j ∧ ∃ z, Γ = [some (.fro (.list (us.map nuD))), some (.fro (.list (vs.map nuD))), z, none], ⟨Nat.zero_le _, none, rfl⟩, ?_, ?_⟩
  · rintro i d _ hd ⟨hi, z, rfl⟩
    obtain ⟨hi8, rfl⟩ := rngD_get hd
    refine ⟨L rfl, ?_⟩
    show _ ∧ LcGoal _ _ _ _ _ _ _ _
    dsimp only
    rw [List.length_map, rngD_nat]
    refine ⟨⟨by omega, by omega⟩, ?_⟩
    refine ⟨fun j h => (by cases h), fun n acc Γ => ∃ bs : List Bool, acc = bs.map .bool ∧ bs.length = n ∧ (i = j → bs.all id = true) ∧ Γ = [some (.fro (.list (us.map nuD))), some (.fro (.list (vs.map nuD))), some (.fro (.int (0 + (i : Nat) * 1))), none], ⟨[], rfl, rfl, fun _ => rfl, rfl⟩, fun n acc Γ _ _ j h => (by cases h), ?_, ?_⟩
    · rintro n d _ _ hd2 ⟨bs, rfl, hb, hbj, rfl⟩
      obtain ⟨hn, rfl⟩ := rng_mget hd2
      have e1 := List.getElem?_eq_getElem hn
      have e2 := List.getElem?_eq_getElem (show n < vs.length by omega)
      obtain ⟨u1, u2, u3⟩ := hu _ (List.getElem_mem hn)
      obtain ⟨v1, v2, v3⟩ := hv _ (List.getElem_mem (show n < vs.length by omega))
      generalize us[n] = u at e1 u1 u2 u3
      generalize vs[n] = v at e2 v1 v2 v3
      have bm := bd_mul (bd_wp (0 + (i : Nat) * 1)) u1
      refine ⟨by rw [List.length_map]; omega, L rfl, List.nodup_nil, 0 + (i : Nat) * 1, rfl, _, map_at rfl e1, ?_⟩
      refine ⟨List.nodup_nil, wp (0 + (i : Nat) * 1), 0, u.1, u.2, rfl, (bd_wp _).mono (by omega), u1.mono (by omega), _, map_at rfl e2, ?_⟩
      refine ⟨List.nodup_nil, _, _, v.1, v.2, rfl, bm.mono (by omega), v1.mono (by omega), ⟨by omega, by omega⟩, ⟨v2, by omega⟩, fun b hb' => ?_⟩
      refine ⟨bs ++ [b], by simp, by simp [hb], fun e => ?_, rfl⟩
      have t := hbj e
      have : b = true := hb' (by have z := hh n u v e1 e2; subst e; rw [show 0 + ((i : Nat) : Int) * 1 = ((i : Nat) : Int) by omega]; exact z)
      rw [List.all_append, t, this]
      rfl
    · rintro _ _ ⟨bs, rfl, hb, hbj, rfl⟩
      refine ⟨_, bools_of bs, ?_⟩
      refine mB (fun z => ?_) (fun z => ?_)
      · exact h
      · have ne : i ≠ j := fun e => by rw [hbj e] at z; cases z
        exact ⟨by omega, _, rfl⟩
  · rintro _ ⟨hi, z, rfl⟩
    rw [rngD_len] at hi
    exfalso
    have : (8 : Int).toNat = 8 := rfl
    omega
end
end K73
set_option Elab.async false
set_option linter.all false
set_option maxRecDepth 100000
set_option maxHeartbeats 4000000
namespace K73
open PySem PySem.Spec PyProof.Rows L2 Dn Zw
/-! Z[w] is a ring -/
def ofI (n : Int) : Z4 := ⟨n, 0, 0, 0⟩
def npw (x : Z4) : Nat → Z4
  | 0 => ofI 1
  | n + 1 => mul (npw x n) x
instance : Add Z4 := ⟨add⟩
instance : Mul Z4 := ⟨mul⟩
instance : Neg Z4 := ⟨neg⟩
instance : Sub Z4 := ⟨fun x y => add x (neg y)⟩
instance : NatCast Z4 := ⟨fun n => ofI n⟩
instance : IntCast Z4 := ⟨ofI⟩
instance (n : Nat) : OfNat Z4 n := ⟨ofI n⟩
instance : SMul Nat Z4 := ⟨fun n x => mul (ofI n) x⟩
instance : SMul Int Z4 := ⟨fun n x => mul (ofI n) x⟩
instance : HPow Z4 Nat Z4 := ⟨npw⟩
theorem add_def (x y : Z4) : x + y = add x y := rfl
theorem mul_def (x y : Z4) : x * y = mul x y := rfl
theorem neg_def (x : Z4) : -x = neg x := rfl
theorem sub_def (x y : Z4) : x - y = add x (neg y) := rfl
theorem zero_def : (0 : Z4) = ofI 0 := rfl
theorem one_def : (1 : Z4) = ofI 1 := rfl
instance : Lean.Grind.CommRing Z4 where
  natCast := inferInstance
  ofNat := inferInstance
  nsmul := inferInstance
  npow := inferInstance
  intCast := inferInstance
  zsmul := inferInstance
  add_zero := fun x => by simp only [zero_def, one_def, sub_def, add_def, mul_def, neg_def, add, mul, neg, ofI]; ext <;> simp only [] <;> grind
  add_comm := fun x y => by simp only [zero_def, one_def, sub_def, add_def, mul_def, neg_def, add, mul, neg, ofI]; ext <;> simp only [] <;> grind
  add_assoc := fun x y z => by simp only [zero_def, one_def, sub_def, add_def, mul_def, neg_def, add, mul, neg, ofI]; ext <;> simp only [] <;> grind
  mul_assoc := mul_assoc
  mul_one := fun x => by simp only [zero_def, one_def, sub_def, add_def, mul_def, neg_def, add, mul, neg, ofI]; ext <;> simp only [] <;> grind
  one_mul := fun x => by simp only [zero_def, one_def, sub_def, add_def, mul_def, neg_def, add, mul, neg, ofI]; ext <;> simp only [] <;> grind
  left_distrib := fun x y z => by simp only [zero_def, one_def, sub_def, add_def, mul_def, neg_def, add, mul, neg, ofI]; ext <;> simp only [] <;> grind
  right_distrib := fun x y z => by simp only [zero_def, one_def, sub_def, add_def, mul_def, neg_def, add, mul, neg, ofI]; ext <;> simp only [] <;> grind
  zero_mul := fun x => by simp only [zero_def, one_def, sub_def, add_def, mul_def, neg_def, add, mul, neg, ofI]; ext <;> simp only [] <;> grind
  mul_zero := fun x => by simp only [zero_def, one_def, sub_def, add_def, mul_def, neg_def, add, mul, neg, ofI]; ext <;> simp only [] <;> grind
  pow_zero := fun x => rfl
  pow_succ := fun x n => rfl
  ofNat_succ := fun n => by show ofI ((n + 1 : Nat) : Int) = add (ofI n) (ofI 1); simp [ofI, add]
  ofNat_eq_natCast := fun n => rfl
  nsmul_eq_natCast_mul := fun n x => rfl
  neg_add_cancel := fun x => by simp only [zero_def, one_def, sub_def, add_def, mul_def, neg_def, add, mul, neg, ofI]; ext <;> simp only [] <;> grind
  sub_eq_add_neg := fun x y => rfl
  neg_zsmul := fun i x => by show mul (ofI (-i)) x = neg (mul (ofI i) x); simp only [ofI, mul, neg]; ext <;> simp only [] <;> grind
  zsmul_natCast_eq_nsmul := fun n x => rfl
  intCast_ofNat := fun n => rfl
  intCast_neg := fun i => by show ofI (-i) = neg (ofI i); simp [ofI, neg]
  mul_comm := mul_comm
theorem conj_mul (x y : Z4) : conj (x * y) = conj x * conj y := by simp only [mul_def, mul, conj]; ext <;> simp only [] <;> grind
theorem conj_add (x y : Z4) : conj (x + y) = conj x + conj y := by simp only [add_def, add, conj]; ext <;> simp only [] <;> grind
theorem conj_conj (x : Z4) : conj (conj x) = x := by simp only [conj]; ext <;> simp
/-! values of the law's numbers -/
def vl (N : Nat) (u : Z4 × Int) : Z4 := ev (N : Int) u.1 (2 * u.2)
theorem vl_pl {N : Nat} {u v : Z4 × Int} (h : 2 * u.2 ≤ N) (g : 2 * v.2 ≤ N) : vl N (plL u v) = vl N u + vl N v := by
  show ev _ (plus u.1 (2 * u.2) v.1 (2 * v.2)) (2 * max u.2 v.2) = _
  rw [show 2 * max u.2 v.2 = max (2 * u.2) (2 * v.2) by omega]
  exact ev_plus h g
theorem vl_by {M N : Nat} {u v : Z4 × Int} (h : 2 * u.2 ≤ M) (g : 2 * v.2 ≤ N) : vl (M + N) (byL u v) = vl M u * vl N v := by
  show rtn (((M + N : Nat) : Int) - 2 * (u.2 + v.2)).toNat (mul u.1 v.1) = mul (rtn ((M : Int) - 2 * u.2).toNat u.1) (rtn ((N : Int) - 2 * v.2).toNat v.1)
  rw [show (((M + N : Nat) : Int) - 2 * (u.2 + v.2)).toNat = ((M : Int) - 2 * u.2).toNat + ((N : Int) - 2 * v.2).toNat by omega]
  exact rtn_mul2 _ _ _ _
theorem vl_bar (N : Nat) (u : Z4 × Int) : vl N (barL u) = conj (vl N u) := rtn_conj _ _
def nsq (x : Z4) : Z4 := x * conj x
def totF (s : Z4) (l : List Z4) : Z4 := l.foldl (fun a b => a + b) s
abbrev tot (l : List Z4) : Z4 := totF 0 l
theorem totF_eq : ∀ (l : List Z4) (s : Z4), totF s l = s + tot l := by
  intro l
  induction l with
  | nil => intro s; show s = s + 0; grind
  | cons x l ih =>
    intro s
    have h1 := ih (s + x)
    have h2 := ih (0 + x)
    show totF (s + x) l = s + totF (0 + x) l
    rw [h1, h2]
    grind
theorem tot_cons (x : Z4) (l : List Z4) : tot (x :: l) = x + tot l := by
  show totF (0 + x) l = _
  rw [totF_eq]
  grind
theorem vl_sumF {N : Nat} : ∀ (vs : List (Z4 × Int)) (s : Z4 × Int), (∀ v ∈ vs, 2 * v.2 ≤ N) → 2 * s.2 ≤ (N + N : Nat) → vl (N + N) (vs.foldl (fun tot v => plL tot (byL v (barL v))) s) = totF (vl (N + N) s) (vs.map fun v => nsq (vl N v)) := by
  intro vs
  induction vs with
  | nil => intro s _ _; rfl
  | cons v vs ih =>
    intro s h hs
    have hv := h v (by simp)
    have e : vl (N + N) (plL s (byL v (barL v))) = vl (N + N) s + nsq (vl N v) := by
      rw [vl_pl hs (by show 2 * (v.2 + v.2) ≤ _; push_cast; omega), vl_by (u := v) (v := barL v) hv hv, vl_bar]
      rfl
    show vl (N + N) (vs.foldl (fun tot v => plL tot (byL v (barL v))) (plL s (byL v (barL v)))) = totF (vl (N + N) s + nsq (vl N v)) (vs.map fun v => nsq (vl N v))
    rw [← e]
    refine ih _ (fun x hx => h x (by simp [hx])) ?_
    show 2 * max s.2 (v.2 + v.2) ≤ _
    push_cast at hs ⊢
    omega
theorem vl_sum {N : Nat} {vs : List (Z4 × Int)} (h : ∀ v ∈ vs, 2 * v.2 ≤ N) : vl (N + N) (sumL vs) = tot (vs.map fun v => nsq (vl N v)) := by
  have := vl_sumF vs (zero, 0) h (by show (2 * 0 : Int) ≤ _; omega)
  rw [show vl (N + N) (zero, 0) = 0 from rtn_zero _] at this
  exact this
theorem eqv_vl {N : Nat} {u v : Z4 × Int} (h : 2 * u.2 ≤ N) (g : 2 * v.2 ≤ N) (e : vl N u = vl N v) : Eqv u.1 (2 * u.2) v.1 (2 * v.2) := eqv_of h g e
theorem vl_eqv {N : Nat} {u v : Z4 × Int} (h : 2 * u.2 ≤ N) (g : 2 * v.2 ≤ N) (e : Eqv u.1 (2 * u.2) v.1 (2 * v.2)) : vl N u = vl N v := e _ h g
/-! the planes, by turns under 8 -/
theorem wp_mod {t t' : Int} (h : t % 8 = t' % 8) : wp t = wp t' := by
  have h4 : t % 4 = t' % 4 := by omega
  unfold wp
  rw [h, h4]
theorem lo_mod {p : Nat} {t t' : Int} (h : t % 8 = t' % 8) : lo p t = lo p t' := by
  unfold lo wL
  rw [wp_mod h]
theorem hi_mod {p : Nat} {t t' : Int} (h : t % 8 = t' % 8) : hi p t = hi p t' := by
  unfold hi wL
  rw [wp_mod h]
def byx (p : Nat) (t : Int) : Int := match p with
  | 0 => 0 - t
  | 1 => 4 - t
  | _ => t + 4
def byz (p : Nat) (t : Int) : Int := match p with
  | 0 => t + 4
  | _ => 0 - t
theorem byx_mod {p : Nat} {t t' : Int} (h : t % 8 = t' % 8) : byx p t % 8 = byx p t' % 8 := by
  unfold byx
  split <;> omega
theorem byz_mod {p : Nat} {t t' : Int} (h : t % 8 = t' % 8) : byz p t % 8 = byz p t' % 8 := by
  unfold byz
  split <;> omega
def Nn : Z4 := vl 8 (one, 0)
theorem f_all : ∀ p : Nat, p < 3 → ∀ r : Nat, r < 8 →
    (conj (vl 4 (lo p r)) * vl 4 (lo p r) + conj (vl 4 (lo p (r + 4))) * vl 4 (lo p (r + 4)) = Nn ∧
     conj (vl 4 (hi p r)) * vl 4 (hi p r) + conj (vl 4 (hi p (r + 4))) * vl 4 (hi p (r + 4)) = Nn ∧
     conj (vl 4 (lo p r)) * vl 4 (hi p r) + conj (vl 4 (lo p (r + 4))) * vl 4 (hi p (r + 4)) = 0 ∧
     conj (vl 4 (hi p r)) * vl 4 (lo p r) + conj (vl 4 (hi p (r + 4))) * vl 4 (lo p (r + 4)) = 0) ∧
    vl 4 (lo p r) * conj (vl 4 (lo p r)) + vl 4 (hi p r) * conj (vl 4 (hi p r)) = Nn ∧
    conj (vl 4 (lo p r)) * vl 4 (lo p (r + 4)) + conj (vl 4 (hi p r)) * vl 4 (hi p (r + 4)) = 0 ∧
    (∃ j : Nat, j < 8 ∧ wp j * conj (vl 4 (hi p r)) = conj (vl 4 (lo p (byx p r))) ∧ wp j * conj (vl 4 (lo p r)) = conj (vl 4 (hi p (byx p r)))) ∧
    (∃ j : Nat, j < 8 ∧ wp j * conj (vl 4 (lo p r)) = conj (vl 4 (lo p (byz p r))) ∧ wp j * (conj (vl 4 (hi p r)) * wp 4) = conj (vl 4 (hi p (byz p r)))) := by decide +kernel
end K73
set_option Elab.async false
set_option linter.all false
set_option maxRecDepth 100000
set_option maxHeartbeats 4000000
namespace K73
open PySem PySem.Spec PyProof.Rows L2 Dn Zw
theorem pl_e {p : Nat} (t : Int) (hp : p < 3) : 2 * (lo p t).2 ≤ (4 : Nat) ∧ 2 * (hi p t).2 ≤ (4 : Nat) := by
  rcases (show p = 0 ∨ p = 1 ∨ p = 2 by omega) with rfl | rfl | rfl
  · exact ⟨by show (2 * 1 : Int) ≤ 4; decide, by show (2 * 1 : Int) ≤ 4; decide⟩
  · exact ⟨by show (2 * 2 : Int) ≤ 4; decide, by show (2 * 2 : Int) ≤ 4; decide⟩
  · exact ⟨by show (2 * 2 : Int) ≤ 4; decide, by show (2 * 2 : Int) ≤ 4; decide⟩
def ownL (u : Z4 × Int) : Z4 × Int := if u.2 % 2 = 1 then (rt u.1, (u.2 + 1) / 2) else (u.1, u.2 / 2)
theorem own_eqv (u : Z4 × Int) : Eqv u.1 u.2 (ownL u).1 (2 * (ownL u).2) := by
  unfold ownL
  split
  · show Eqv u.1 u.2 (rt u.1) (2 * ((u.2 + 1) / 2))
    rw [show 2 * ((u.2 + 1) / 2) = u.2 + 1 by omega]
    exact eqv_rt _ _
  · show Eqv u.1 u.2 u.1 (2 * (u.2 / 2))
    rw [show 2 * (u.2 / 2) = u.2 by omega]
    exact .refl _ _
theorem own_bd {b : Nat} {u v : Z4 × Int} (h : Q1 b u v) (hb : b ≤ 30) : SmL (ownL u) ∧ (ownL u).2 ≤ 40 := by
  have c := h.can.1
  have p := h.pu
  have bu := h.bu
  unfold ownL
  split
  · exact ⟨⟨(bd_rt bu).mono (by omega), by show 0 ≤ (u.2 + 1) / 2; omega, by show (u.2 + 1) / 2 ≤ 100; omega⟩, by show (u.2 + 1) / 2 ≤ 40; omega⟩
  · exact ⟨⟨bu.mono (by omega), by show 0 ≤ u.2 / 2; omega, by show u.2 / 2 ≤ 100; omega⟩, by show u.2 / 2 ≤ 40; omega⟩
theorem own_vl {b : Nat} {u v : Z4 × Int} (h : Q1 b u v) (hb : b ≤ 30) : vl 200 (ownL u) = vl 200 v := by
  obtain ⟨⟨_, _, _⟩, o⟩ := own_bd h hb
  have := h.v1
  exact vl_eqv (by omega) (by omega) ((own_eqv u).symm.trans h.eqv)
theorem fnd_vl {qs : List Int} {q : Int} {p : Nat} {t : Int} {ns : Am} {i : Nat} (hp : p < 3) (h1 : (ns (insN i (sh qs q) false)).2 ≤ 90) (h2 : (ns (insN i (sh qs q) true)).2 ≤ 90) :
    vl 200 (fnd qs q p t ns i) = conj (vl 4 (lo p t)) * vl 196 (ns (insN i (sh qs q) false)) + conj (vl 4 (hi p t)) * vl 196 (ns (insN i (sh qs q) true)) := by
  obtain ⟨e1, e2⟩ := pl_e t hp
  have a : ∀ (x y : Z4 × Int), 2 * x.2 ≤ (4 : Nat) → y.2 ≤ 90 → 2 * (byL (barL x) y).2 ≤ (200 : Nat) ∧ vl 200 (byL (barL x) y) = conj (vl 4 x) * vl 196 y := fun x y hx hy =>
    ⟨by show 2 * (x.2 + y.2) ≤ _; omega, by rw [← vl_bar]; exact vl_by (M := 4) (N := 196) (u := barL x) hx (by omega)⟩
  obtain ⟨a1, a2⟩ := a _ _ e1 h1
  obtain ⟨b1, b2⟩ := a _ _ e2 h2
  show vl 200 (plL _ _) = _
  rw [vl_pl a1 b1, a2, b2]
theorem one_mul' (x : Z4) : mul one x = x := by rw [mul_comm]; exact mul_one x
theorem nsq_up {v : Z4 × Int} (h : v.2 ≤ 90) : nsq (vl 200 v) = Nn * nsq (vl 196 v) := by
  have e : vl 200 v = vl 4 (one, 0) * vl 196 v := by
    have := vl_by (M := 4) (N := 196) (u := (one, 0)) (v := v) (by decide) (by omega)
    rw [← this]
    show ev _ v.1 (2 * v.2) = ev _ (mul one v.1) (2 * (0 + v.2))
    rw [one_mul', Int.zero_add]
  have d : vl 4 (one, 0) * conj (vl 4 (one, 0)) = Nn := by decide +kernel
  unfold nsq
  rw [e, conj_mul, ← d]
  grind
theorem tot_add {α : Type} (f g : α → Z4) : ∀ l : List α, tot (l.map f) + tot (l.map g) = tot (l.map fun x => f x + g x) := by
  intro l
  induction l with
  | nil => show (0 : Z4) + 0 = 0; grind
  | cons x l ih =>
    rw [List.map_cons, List.map_cons, List.map_cons, tot_cons, tot_cons, tot_cons, ← ih]
    grind
theorem tot_mul {α : Type} (c : Z4) (f : α → Z4) : ∀ l : List α, tot (l.map fun x => c * f x) = c * tot (l.map f) := by
  intro l
  induction l with
  | nil => show (0 : Z4) = c * 0; grind
  | cons x l ih =>
    rw [List.map_cons, List.map_cons, tot_cons, tot_cons, ih]
    grind
theorem tot_split (g : Nat → Z4) : ∀ m : Nat, m < 3 → ∀ s : Nat, s < m + 1 → tot ((List.range (2 ^ (m + 1))).map g) = tot ((List.range (2 ^ m)).map fun i => g (insN i s false) + g (insN i s true)) := by
  intro m hm s hs
  rcases (show (m = 0 ∧ s = 0) ∨ (m = 1 ∧ s = 0) ∨ (m = 1 ∧ s = 1) ∨ (m = 2 ∧ s = 0) ∨ (m = 2 ∧ s = 1) ∨ (m = 2 ∧ s = 2) by omega) with ⟨rfl, rfl⟩ | ⟨rfl, rfl⟩ | ⟨rfl, rfl⟩ | ⟨rfl, rfl⟩ | ⟨rfl, rfl⟩ | ⟨rfl, rfl⟩
  · show (0 : Z4) + g 0 + g 1 = (0 : Z4) + (g 0 + g 1)
    grind
  · show (0 : Z4) + g 0 + g 1 + g 2 + g 3 = (0 : Z4) + (g 0 + g 1) + (g 2 + g 3)
    grind
  · show (0 : Z4) + g 0 + g 1 + g 2 + g 3 = (0 : Z4) + (g 0 + g 2) + (g 1 + g 3)
    grind
  · show (0 : Z4) + g 0 + g 1 + g 2 + g 3 + g 4 + g 5 + g 6 + g 7 = (0 : Z4) + (g 0 + g 1) + (g 2 + g 3) + (g 4 + g 5) + (g 6 + g 7)
    grind
  · show (0 : Z4) + g 0 + g 1 + g 2 + g 3 + g 4 + g 5 + g 6 + g 7 = (0 : Z4) + (g 0 + g 2) + (g 1 + g 3) + (g 4 + g 6) + (g 5 + g 7)
    grind
  · show (0 : Z4) + g 0 + g 1 + g 2 + g 3 + g 4 + g 5 + g 6 + g 7 = (0 : Z4) + (g 0 + g 4) + (g 1 + g 5) + (g 2 + g 6) + (g 3 + g 7)
    grind
theorem key_id (l h l' h' x y N : Z4) (h1 : conj l * l + conj l' * l' = N) (h2 : conj h * h + conj h' * h' = N) (h3 : conj l * h + conj l' * h' = 0) (h4 : conj h * l + conj h' * l' = 0) :
    nsq (conj l * x + conj h * y) + nsq (conj l' * x + conj h' * y) = N * (nsq x + nsq y) := by
  unfold nsq
  simp only [conj_add, conj_mul, conj_conj]
  grind
theorem t_r (t : Int) : t % 8 = (((t % 8).toNat : Nat) : Int) % 8 ∧ (t % 8).toNat < 8 := by omega
theorem f_at {p : Nat} (t : Int) (hp : p < 3) :
    (conj (vl 4 (lo p t)) * vl 4 (lo p t) + conj (vl 4 (lo p (t + 4))) * vl 4 (lo p (t + 4)) = Nn ∧
     conj (vl 4 (hi p t)) * vl 4 (hi p t) + conj (vl 4 (hi p (t + 4))) * vl 4 (hi p (t + 4)) = Nn ∧
     conj (vl 4 (lo p t)) * vl 4 (hi p t) + conj (vl 4 (lo p (t + 4))) * vl 4 (hi p (t + 4)) = 0 ∧
     conj (vl 4 (hi p t)) * vl 4 (lo p t) + conj (vl 4 (hi p (t + 4))) * vl 4 (lo p (t + 4)) = 0) ∧
    vl 4 (lo p t) * conj (vl 4 (lo p t)) + vl 4 (hi p t) * conj (vl 4 (hi p t)) = Nn ∧
    conj (vl 4 (lo p t)) * vl 4 (lo p (t + 4)) + conj (vl 4 (hi p t)) * vl 4 (hi p (t + 4)) = 0 ∧
    (∃ j : Nat, j < 8 ∧ wp j * conj (vl 4 (hi p t)) = conj (vl 4 (lo p (byx p t))) ∧ wp j * conj (vl 4 (lo p t)) = conj (vl 4 (hi p (byx p t)))) ∧
    (∃ j : Nat, j < 8 ∧ wp j * conj (vl 4 (lo p t)) = conj (vl 4 (lo p (byz p t))) ∧ wp j * (conj (vl 4 (hi p t)) * wp 4) = conj (vl 4 (hi p (byz p t)))) := by
  obtain ⟨h1, h2⟩ := t_r t
  have h3 : (t + 4) % 8 = ((((t % 8).toNat : Nat) : Int) + 4) % 8 := by omega
  have z := f_all p hp _ h2
  rw [lo_mod h1, hi_mod h1, lo_mod h3, hi_mod h3, lo_mod (byx_mod (p := p) h1), hi_mod (byx_mod (p := p) h1), lo_mod (byz_mod (p := p) h1), hi_mod (byz_mod (p := p) h1)]
  exact z
/-- a state's numbers, as the law drew them -/
def Nsm (n : Nat) (ns : Am) : Prop := ∀ i, i < n → Bd 30 (ns i).1 ∧ 0 ≤ (ns i).2 ∧ (ns i).2 ≤ 5
def ows (n : Nat) (G : Am) : List (Z4 × Int) := (List.range n).map fun i => ownL (G i)
section
variable {qs : List Int} {q : Int} {p b : Nat} {t : Int} {ns G1 G2 : Am}
theorem ows_sm (hb : b ≤ 30) {F : Am} {n : Nat} (h : RR b n G1 F) : ∀ v ∈ ows n G1, SmL v := fun v hv => by
  obtain ⟨i, hi, rfl⟩ := List.mem_map.mp hv
  exact (own_bd (h i (List.mem_range.mp hi)) hb).1
theorem sum_top {vs : List (Z4 × Int)} (h : ∀ v ∈ vs, SmL v) : Bd (200010 + 801 * vs.length) (sumL vs).1 ∧ 0 ≤ (sumL vs).2 ∧ (sumL vs).2 ≤ 200 := by
  have := sum_bd h vs.length (Nat.le_refl _)
  rwa [List.take_length] at this
theorem ns_sm {n : Nat} (h : Nsm n ns) : ∀ v ∈ (List.range n).map ns, SmL v := fun v hv => by
  obtain ⟨i, hi, rfl⟩ := List.mem_map.mp hv
  obtain ⟨h1, h2, h3⟩ := h i (List.mem_range.mp hi)
  exact ⟨h1.mono (by omega), h2, by omega⟩
theorem both_like (hq : q ∈ qs) (hl : qs.length ≤ 3) (hp : p < 3) (hb : b ≤ 30) (hn : Nsm (2 ^ qs.length) ns) (g1 : RR b (2 ^ (remQ qs q).length) G1 (fnd qs q p t ns)) (g2 : RR b (2 ^ (remQ qs q).length) G2 (fnd qs q p (t + 4) ns)) :
    Eqv (plL (sumL (ows (2 ^ (remQ qs q).length) G1)) (sumL (ows (2 ^ (remQ qs q).length) G2))).1 (2 * (plL (sumL (ows (2 ^ (remQ qs q).length) G1)) (sumL (ows (2 ^ (remQ qs q).length) G2))).2) (sumL ((List.range (2 ^ qs.length)).map ns)).1 (2 * (sumL ((List.range (2 ^ qs.length)).map ns)).2) := by
  have rl := remQ_len hq
  have s1 := sh_lt hq
  have rn : (remQ qs q).length + 1 = qs.length := by have := List.length_pos_of_mem hq; omega
  obtain ⟨_, _, t1⟩ := sum_top (ows_sm hb g1)
  obtain ⟨_, _, t2⟩ := sum_top (ows_sm hb g2)
  obtain ⟨_, _, t3⟩ := sum_top (ns_sm hn)
  have sm : ∀ {vs : List (Z4 × Int)}, (∀ v ∈ vs, SmL v) → ∀ v ∈ vs, 2 * v.2 ≤ (200 : Nat) := fun h v hv => by have := (h v hv).2.2; omega
  refine eqv_vl (N := 200 + 200) (by show 2 * max _ _ ≤ _; push_cast; omega) (by push_cast; omega) ?_
  rw [vl_pl (by push_cast; omega) (by push_cast; omega), vl_sum (sm (ows_sm hb g1)), vl_sum (sm (ows_sm hb g2)), vl_sum (sm (ns_sm hn))]
  unfold ows
  rw [List.map_map, List.map_map, List.map_map]
  obtain ⟨⟨f1, f2, f3, f4⟩, _⟩ := f_at t hp
  have e3 : tot ((List.range (2 ^ qs.length)).map ((fun v => nsq (vl 200 v)) ∘ ns)) = Nn * tot ((List.range (2 ^ qs.length)).map fun j => nsq (vl 196 (ns j))) := by
    rw [← tot_mul]
    refine congrArg tot (List.map_congr_left fun j hj => ?_)
    obtain ⟨_, _, h3⟩ := hn j (List.mem_range.mp hj)
    exact nsq_up (by omega)
  rw [e3, tot_add, ← rn, tot_split (fun j => nsq (vl 196 (ns j))) _ (by omega) (sh qs q) (by omega), ← tot_mul]
  refine congrArg tot (List.map_congr_left fun i hi => ?_)
  have hi := List.mem_range.mp hi
  have il := ins_lt (remQ qs q).length (by omega) (sh qs q) (by omega) i hi
  rw [rn] at il
  obtain ⟨_, _, n1⟩ := hn _ il.1
  obtain ⟨_, _, n2⟩ := hn _ il.2
  show nsq (vl 200 (ownL (G1 i))) + nsq (vl 200 (ownL (G2 i))) = _
  rw [own_vl (g1 i hi) hb, own_vl (g2 i hi) hb, fnd_vl hp (by omega) (by omega), fnd_vl hp (by omega) (by omega)]
  exact key_id _ _ _ _ _ _ _ f1 f2 f3 f4
theorem norm_like (t : Int) (hp : p < 3) : Eqv (sumL [lo p t, hi p t]).1 (2 * (sumL [lo p t, hi p t]).2) one (2 * 0) := by
  obtain ⟨e1, e2⟩ := pl_e t hp
  obtain ⟨⟨_, a0, _⟩, ⟨_, b0, _⟩⟩ := pl_bd t hp
  obtain ⟨_, f, _⟩ := f_at t hp
  have sm : ∀ v ∈ [lo p t, hi p t], 2 * v.2 ≤ (4 : Nat) := fun v hv => by
    simp only [List.mem_cons, List.not_mem_nil, or_false] at hv
    rcases hv with rfl | rfl
    · exact e1
    · exact e2
  refine eqv_vl (N := 4 + 4) (v := (one, 0)) ?_ (by decide) ?_
  · show 2 * max (max 0 ((lo p t).2 + (lo p t).2)) ((hi p t).2 + (hi p t).2) ≤ _
    push_cast at e1 e2 ⊢
    omega
  · rw [vl_sum sm]
    show (0 + vl 4 (lo p t) * conj (vl 4 (lo p t))) + vl 4 (hi p t) * conj (vl 4 (hi p t)) = Nn
    rw [← f]
    grind
def crs (p : Nat) (t : Int) : Z4 × Int := plL (byL (barL (lo p t)) (lo p (t + 4))) (byL (barL (hi p t)) (hi p (t + 4)))
theorem cross_like (t : Int) (hp : p < 3) : Eqv (crs p t).1 (2 * (crs p t).2) zero (2 * 0) := by
  obtain ⟨e1, e2⟩ := pl_e t hp
  obtain ⟨e3, e4⟩ := pl_e (t + 4) hp
  obtain ⟨_, _, f, _⟩ := f_at t hp
  have a : ∀ (x y : Z4 × Int), 2 * x.2 ≤ (4 : Nat) → 2 * y.2 ≤ (4 : Nat) → 2 * (byL (barL x) y).2 ≤ (8 : Nat) ∧ vl 8 (byL (barL x) y) = conj (vl 4 x) * vl 4 y := fun x y hx hy =>
    ⟨by show 2 * (x.2 + y.2) ≤ _; omega, by rw [← vl_bar]; exact vl_by (M := 4) (N := 4) (u := barL x) hx hy⟩
  obtain ⟨a1, a2⟩ := a _ _ e1 e3
  obtain ⟨b1, b2⟩ := a _ _ e2 e4
  refine eqv_vl (N := 8) (v := (zero, 0)) ?_ (by decide) ?_
  · show 2 * max _ _ ≤ _
    omega
  · show vl 8 (plL _ _) = _
    rw [vl_pl a1 b1, a2, b2, f]
    exact (rtn_zero _).symm
theorem w_vl (j : Nat) (u : Z4 × Int) (h : u.2 ≤ 90) : ev (200 : Nat) (mul (wp j) u.1) (2 * (0 + u.2)) = wp j * vl 200 u := by
  have := vl_by (M := 0) (N := 200) (u := (wp j, 0)) (v := u) (by show (2 * 0 : Int) ≤ 0; decide) (by omega)
  rw [Nat.zero_add] at this
  exact this
theorem unit_core {X Y : Am} {n : Nat} (hb : b ≤ 30) (j : Nat) (g1 : RR b n G1 X) (g2 : RR b n G2 Y) (h : ∀ i, i < n → wp j * vl 200 (X i) = vl 200 (Y i)) :
    ∀ (i : Nat) u v, (ows n G1)[i]? = some u → (ows n G2)[i]? = some v → Eqv (mul (wp ((j : Nat) : Int)) u.1) (2 * (0 + u.2)) v.1 (2 * v.2) := by
  intro i u v hu hv
  obtain ⟨hi, rfl⟩ := rng_mget hu
  obtain ⟨_, rfl⟩ := rng_mget hv
  obtain ⟨⟨_, _, _⟩, o1⟩ := own_bd (g1 i hi) hb
  obtain ⟨⟨_, _, _⟩, o2⟩ := own_bd (g2 i hi) hb
  refine eqv_of (N := ((200 : Nat) : Int)) (by omega) (by omega) ?_
  rw [w_vl j _ (by omega)]
  show _ = vl 200 (ownL (G2 i))
  rw [own_vl (g1 i hi) hb, own_vl (g2 i hi) hb]
  exact h i hi
theorem flip_ins : ∀ s : Nat, s < 4 → ∀ i : Nat, i < 8 → flipN (insN i s false) s = insN i s true ∧ flipN (insN i s true) s = insN i s false ∧ bitN (insN i s false) s = false ∧ bitN (insN i s true) s = true := by decide +kernel
theorem unit_x (hq : q ∈ qs) (hl : qs.length ≤ 3) (hp : p < 3) (hb : b ≤ 30) (hn : Nsm (2 ^ qs.length) ns) (g1 : RR b (2 ^ (remQ qs q).length) G1 (fnd qs q p t (gate 0 qs q 0 ns))) (g2 : RR b (2 ^ (remQ qs q).length) G2 (fnd qs q p (byx p t) ns)) :
    ∃ j : Nat, j < 8 ∧ ∀ (i : Nat) u v, (ows (2 ^ (remQ qs q).length) G1)[i]? = some u → (ows (2 ^ (remQ qs q).length) G2)[i]? = some v → Eqv (mul (wp ((j : Nat) : Int)) u.1) (2 * (0 + u.2)) v.1 (2 * v.2) := by
  have rl := remQ_len hq
  have s1 := sh_lt hq
  have rn : (remQ qs q).length + 1 = qs.length := by have := List.length_pos_of_mem hq; omega
  obtain ⟨_, _, _, ⟨j, hj, w1, w2⟩, _⟩ := f_at t hp
  refine ⟨j, hj, unit_core hb j g1 g2 fun i hi => ?_⟩
  have m8 : 2 ^ (remQ qs q).length ≤ 8 := Nat.le_trans (Nat.pow_le_pow_right (by decide) (show _ ≤ 3 by omega)) (by decide)
  have il := ins_lt (remQ qs q).length (by omega) (sh qs q) (by omega) i hi
  rw [rn] at il
  obtain ⟨_, _, n1⟩ := hn _ il.1
  obtain ⟨_, _, n2⟩ := hn _ il.2
  obtain ⟨c1, c2, _⟩ := flip_ins (sh qs q) (by omega) i (by omega)
  have x1 : gate 0 qs q 0 ns (insN i (sh qs q) false) = ns (insN i (sh qs q) true) := congrArg ns c1
  have x2 : gate 0 qs q 0 ns (insN i (sh qs q) true) = ns (insN i (sh qs q) false) := congrArg ns c2
  rw [fnd_vl hp (by rw [x1]; omega) (by rw [x2]; omega), fnd_vl hp (by omega) (by omega), x1, x2, ← w1, ← w2]
  grind
theorem unit_z (hq : q ∈ qs) (hl : qs.length ≤ 3) (hp : p < 3) (hb : b ≤ 30) (hn : Nsm (2 ^ qs.length) ns) (g1 : RR b (2 ^ (remQ qs q).length) G1 (fnd qs q p t (gate 1 qs q 4 ns))) (g2 : RR b (2 ^ (remQ qs q).length) G2 (fnd qs q p (byz p t) ns)) :
    ∃ j : Nat, j < 8 ∧ ∀ (i : Nat) u v, (ows (2 ^ (remQ qs q).length) G1)[i]? = some u → (ows (2 ^ (remQ qs q).length) G2)[i]? = some v → Eqv (mul (wp ((j : Nat) : Int)) u.1) (2 * (0 + u.2)) v.1 (2 * v.2) := by
  have rl := remQ_len hq
  have s1 := sh_lt hq
  have rn : (remQ qs q).length + 1 = qs.length := by have := List.length_pos_of_mem hq; omega
  obtain ⟨_, _, _, _, ⟨j, hj, w1, w2⟩⟩ := f_at t hp
  refine ⟨j, hj, unit_core hb j g1 g2 fun i hi => ?_⟩
  have m8 : 2 ^ (remQ qs q).length ≤ 8 := Nat.le_trans (Nat.pow_le_pow_right (by decide) (show _ ≤ 3 by omega)) (by decide)
  have il := ins_lt (remQ qs q).length (by omega) (sh qs q) (by omega) i hi
  rw [rn] at il
  obtain ⟨_, _, n1⟩ := hn _ il.1
  obtain ⟨_, _, n2⟩ := hn _ il.2
  obtain ⟨_, _, c1, c2⟩ := flip_ins (sh qs q) (by omega) i (by omega)
  have x1 : gate 1 qs q 4 ns (insN i (sh qs q) false) = ns (insN i (sh qs q) false) := by
    show (if bitN _ _ then _ else _) = _
    rw [c1]; rfl
  have x2 : gate 1 qs q 4 ns (insN i (sh qs q) true) = byL (wp 4, 0) (ns (insN i (sh qs q) true)) := by
    show (if bitN _ _ then _ else _) = _
    rw [c2]; rfl
  have x3 : vl 196 (byL (wp 4, 0) (ns (insN i (sh qs q) true))) = wp 4 * vl 196 (ns (insN i (sh qs q) true)) := by
    have := vl_by (M := 0) (N := 196) (u := (wp 4, 0)) (v := ns (insN i (sh qs q) true)) (by decide) (by omega)
    rw [Nat.zero_add] at this
    exact this
  rw [fnd_vl hp (by rw [x1]; omega) (by rw [x2]; show 0 + _ ≤ _; omega), fnd_vl hp (by omega) (by omega), x1, x2, x3, ← w1, ← w2]
  grind
end
end K73
set_option Elab.async false
set_option linter.all false
set_option maxRecDepth 100000
set_option maxHeartbeats 4000000
namespace K73
open PySem PySem.Spec PyProof.Rows L2 Dn Zw
section
variable {P : Program} {w : World} {K : PySem.W.Frag} {mg : Str → Option Value} {base : Heap} {T : Addr → Prop} {f : Addr} {fd : FuncData} {c Pt : Addr} {k : Nat}
abbrev fr (d : D) : Option Rv := some (.fro d)
theorem nd2 : ([1, 0] : List Nat).Nodup := by decide
theorem pst_at (t : Nat) (h : t < 3) : atI ([.str (Str.ofString "XY"), .str (Str.ofString "XZ"), .str (Str.ofString "YZ")] : List D) ((t : Nat) : Int) = some (.str (pst t)) := by
  rcases (show t = 0 ∨ t = 1 ∨ t = 2 by omega) with rfl | rfl | rfl <;> rfl
noncomputable def tld (g : Am) : Am := fun i => exF (g i).1 (2 * (g i).2)
theorem q_tld {v : Z4 × Int} (h : Bd 30 v.1 ∧ 0 ≤ v.2 ∧ v.2 ≤ 5) : Q1 0 (exF v.1 (2 * v.2)) v := by
  obtain ⟨b1, b2, b3⟩ := h
  have e := exF_ex v.1 (2 * v.2)
  have t := e.bd 30 b1
  rw [show (-(2 * v.2)).toNat = 0 by omega] at t
  exact ⟨e.can, e.eqv.symm, t, b1, by have := e.top; omega, b2, by omega⟩
theorem rem8 {qs : List Int} {q : Int} (hq : q ∈ qs) (hl : qs.length ≤ 3) : 2 ^ (remQ qs q).length ≤ 8 := by
  rw [remQ_len hq]; exact Nat.le_trans (Nat.pow_le_pow_right (by decide) (show _ ≤ 3 by omega)) (by decide)
theorem gdl_n {n : Nat} {g : Am} (h : Nsm n g) : GdL n g := fun i hi => by
  obtain ⟨h1, h2, h3⟩ := h i hi
  exact ⟨h1.mono (by omega), h2, by omega⟩
abbrev Gl (ns : List Int) (a b : Int) (v2 v3 v4 v5 v6 v7 v8 v9 v10 v11 v12 v13 v14 v15 v16 v17 v18 v19 v20 v21 v22 : Option Rv) : Ge := [some (.scr ns), some (st a b), v2, v3, v4, v5, v6, v7, v8, v9, v10, v11, v12, v13, v14, v15, v16, v17, v18, v19, v20, v21, v22, none]
def R_law_0 : DS := fun D Γ => ∃ ns a b v2 v3 v4 v5 v6 v7 v8 v9 v10 v11 v12 v13 v14 v15 v16 v17 v18 v19 v20 v21 v22 , Γ = Gl ns a b v2 v3 v4 v5 v6 v7 v8 v9 v10 v11 v12 v13 v14 v15 v16 v17 v18 v19 v20 v21 v22 ∧ SOk ns ∧ 0 ≤ a ∧ a ≤ 2 ^ 47 ∧ ∀ (p : Nat) a' b', p < 3 → a ≤ a' → a' ≤ a + 1 → D.nx (Gl ns a' b' v2 (fr (.str (pst p))) v4 v5 v6 v7 v8 v9 v10 v11 v12 v13 v14 v15 v16 v17 v18 v19 v20 v21 v22)
def R_law_1 : DS := fun D Γ => ∃ ns a b v2 v3 v4 v5 v6 v7 v8 v9 v10 v11 v12 v13 v14 v15 v16 v17 v18 v19 v20 v21 v22 , Γ = Gl ns a b v2 v3 v4 v5 v6 v7 v8 v9 v10 v11 v12 v13 v14 v15 v16 v17 v18 v19 v20 v21 v22 ∧ SOk ns ∧ 0 ≤ a ∧ a ≤ 2 ^ 47 ∧ ∀ (t : Int) a' b', a ≤ a' → a' ≤ a + 1 → D.nx (Gl ns a' b' v2 v3 (fr (.int t)) v5 v6 v7 v8 v9 v10 v11 v12 v13 v14 v15 v16 v17 v18 v19 v20 v21 v22)
def R_law_2 : DS := fun D Γ => ∃ ns a b v2 v5 v6 v7 v8 v9 v10 v11 v12 v13 v14 v15 v16 v17 v18 v19 v20 v21 v22 p t, Γ = Gl ns a b v2 (fr (.str (pst p))) (fr (.int t)) v5 v6 v7 v8 v9 v10 v11 v12 v13 v14 v15 v16 v17 v18 v19 v20 v21 v22 ∧ SOk ns ∧ 0 ≤ a ∧ a ≤ 2 ^ 47 ∧ p < 3 ∧ ∀ l h, Q1 13 l (lo p t) → Q1 13 h (hi p t) → D.nx (Gl ns a b v2 (fr (.str (pst p))) (fr (.int t)) (fr (.tuple [t5 l.1 l.2, t5 h.1 h.2])) v6 v7 v8 v9 v10 v11 v12 v13 v14 v15 v16 v17 v18 v19 v20 v21 v22)
def R_law_3 : DS := fun D Γ => ∃ ns a b v2 v5 v6 v7 v8 v9 v10 v11 v12 v13 v14 v15 v16 v17 v18 v19 v20 v21 v22 p t, Γ = Gl ns a b v2 (fr (.str (pst p))) (fr (.int t)) v5 v6 v7 v8 v9 v10 v11 v12 v13 v14 v15 v16 v17 v18 v19 v20 v21 v22 ∧ SOk ns ∧ 0 ≤ a ∧ a ≤ 2 ^ 47 ∧ p < 3 ∧ D.nx (Gl ns a b v2 (fr (.str (pst p))) (fr (.int t)) v5 (fr (.tuple [nuD (lo p t), nuD (hi p t)])) v7 v8 v9 v10 v11 v12 v13 v14 v15 v16 v17 v18 v19 v20 v21 v22)
def R_law_4 : DS := fun D Γ => ∃ ns a b v2 v3 v4 v7 v8 v9 v10 v11 v12 v13 v14 v15 v16 v17 v18 v19 v20 v21 v22 p t l h, Γ = Gl ns a b v2 v3 v4 (fr (.tuple [t5 l.1 l.2, t5 h.1 h.2])) (fr (.tuple [nuD (lo p t), nuD (hi p t)])) v7 v8 v9 v10 v11 v12 v13 v14 v15 v16 v17 v18 v19 v20 v21 v22 ∧ SOk ns ∧ 0 ≤ a ∧ a ≤ 2 ^ 47 ∧ p < 3 ∧ Q1 13 l (lo p t) ∧ Q1 13 h (hi p t) ∧ D.nx (Gl ns a b v2 v3 v4 (fr (.tuple [t5 l.1 l.2, t5 h.1 h.2])) (fr (.tuple [nuD (lo p t), nuD (hi p t)])) v7 v8 v9 v10 v11 v12 v13 v14 v15 v16 v17 v18 v19 v20 v21 v22)
def R_law_5 : DS := fun D Γ => ∃ ns a b v2 v5 v6 v7 v8 v9 v10 v11 v12 v13 v14 v15 v16 v17 v18 v19 v20 v21 v22 p t, Γ = Gl ns a b v2 (fr (.str (pst p))) (fr (.int t)) v5 v6 v7 v8 v9 v10 v11 v12 v13 v14 v15 v16 v17 v18 v19 v20 v21 v22 ∧ SOk ns ∧ 0 ≤ a ∧ a ≤ 2 ^ 47 ∧ p < 3 ∧ D.nx (Gl ns a b v2 (fr (.str (pst p))) (fr (.int t)) v5 v6 (fr (.tuple [nuD (lo p (t + 4)), nuD (hi p (t + 4))])) v8 v9 v10 v11 v12 v13 v14 v15 v16 v17 v18 v19 v20 v21 v22)
def R_law_6 : DS := fun D Γ => ∃ ns a b v2 v3 v4 v5 v8 v9 v10 v11 v12 v13 v14 v15 v16 v17 v18 v19 v20 v21 v22 p t, Γ = Gl ns a b v2 v3 v4 v5 (fr (.tuple [nuD (lo p t), nuD (hi p t)])) (fr (.tuple [nuD (lo p (t + 4)), nuD (hi p (t + 4))])) v8 v9 v10 v11 v12 v13 v14 v15 v16 v17 v18 v19 v20 v21 v22 ∧ SOk ns ∧ 0 ≤ a ∧ a ≤ 2 ^ 47 ∧ p < 3 ∧ D.nx (Gl ns a b v2 v3 v4 v5 (fr (.tuple [nuD (lo p t), nuD (hi p t)])) (fr (.tuple [nuD (lo p (t + 4)), nuD (hi p (t + 4))])) (fr (nuD (crs p t))) v9 v10 v11 v12 v13 v14 v15 v16 v17 v18 v19 v20 v21 v22)
def R_law_7 : DS := fun D Γ => ∃ ns a b v2 v3 v4 v5 v7 v9 v10 v11 v12 v13 v14 v15 v16 v17 v18 v19 v20 v21 v22 p t, Γ = Gl ns a b v2 v3 v4 v5 (fr (.tuple [nuD (lo p t), nuD (hi p t)])) v7 (fr (nuD (crs p t))) v9 v10 v11 v12 v13 v14 v15 v16 v17 v18 v19 v20 v21 v22 ∧ SOk ns ∧ 0 ≤ a ∧ a ≤ 2 ^ 47 ∧ p < 3 ∧ D.nx (Gl ns a b v2 v3 v4 v5 (fr (.tuple [nuD (lo p t), nuD (hi p t)])) v7 (fr (nuD (crs p t))) v9 v10 v11 v12 v13 v14 v15 v16 v17 v18 v19 v20 v21 v22)
def R_law_8 : DS := fun D Γ => ∃ ns a b v2 v3 v4 v5 v6 v7 v8 v9 v10 v11 v12 v13 v14 v15 v16 v17 v18 v19 v20 v21 v22 , Γ = Gl ns a b v2 v3 v4 v5 v6 v7 v8 v9 v10 v11 v12 v13 v14 v15 v16 v17 v18 v19 v20 v21 v22 ∧ SOk ns ∧ 0 ≤ a ∧ a ≤ 2 ^ 47 ∧ ∀ qs a' b', qs.Pairwise (· < ·) → 1 ≤ qs.length → (qs.length : Int) ≤ 3 → (∀ q ∈ qs, 0 ≤ q ∧ q ≤ 23) → a ≤ a' → a' ≤ a + 100 → D.nx (Gl ns a' b' v2 v3 v4 v5 v6 v7 v8 (fr (dI qs)) v10 v11 v12 v13 v14 v15 v16 v17 v18 v19 v20 v21 v22)
def R_law_9 : DS := fun D Γ => ∃ ns a b v2 v3 v4 v5 v6 v7 v8 v10 v11 v12 v13 v14 v15 v16 v17 v18 v19 v20 v21 v22 qs, Γ = Gl ns a b v2 v3 v4 v5 v6 v7 v8 (fr (dI qs)) v10 v11 v12 v13 v14 v15 v16 v17 v18 v19 v20 v21 v22 ∧ SOk ns ∧ 0 ≤ a ∧ a ≤ 2 ^ 47 ∧ qs.length ≤ 4 ∧ ∀ (g : Am) a' b', Nsm (2 ^ qs.length) g → a ≤ a' → a' ≤ a + 200 → D.nx (Gl ns a' b' v2 v3 v4 v5 v6 v7 v8 (fr (dI qs)) (fr (.list ((List.range (2 ^ qs.length)).map fun i => nuD (g i)))) v11 v12 v13 v14 v15 v16 v17 v18 v19 v20 v21 v22)
def R_law_10 : DS := fun D Γ => ∃ ns a b v2 v3 v4 v5 v6 v7 v8 v11 v12 v13 v14 v15 v16 v17 v18 v19 v20 v21 v22 qs g, Γ = Gl ns a b v2 v3 v4 v5 v6 v7 v8 (fr (dI qs)) (fr (.list ((List.range (2 ^ qs.length)).map fun i => nuD (g i)))) v11 v12 v13 v14 v15 v16 v17 v18 v19 v20 v21 v22 ∧ SOk ns ∧ 0 ≤ a ∧ a ≤ 2 ^ 47 ∧ qs.length ≤ 4 ∧ Nsm (2 ^ qs.length) g ∧ ∀ v21, D.nx (Gl ns a b v2 v3 v4 v5 v6 v7 v8 (fr (dI qs)) (fr (.list ((List.range (2 ^ qs.length)).map fun i => nuD (g i)))) (fr (stD qs (tld g))) v12 v13 v14 v15 v16 v17 v18 v19 v20 v21 v22)
def R_law_11 : DS := fun D Γ => ∃ ns a b v2 v3 v4 v5 v6 v7 v8 v11 v12 v13 v14 v15 v16 v17 v18 v19 v20 v21 v22 qs g, Γ = Gl ns a b v2 v3 v4 v5 v6 v7 v8 (fr (dI qs)) (fr (.list ((List.range (2 ^ qs.length)).map fun i => nuD (g i)))) v11 v12 v13 v14 v15 v16 v17 v18 v19 v20 v21 v22 ∧ SOk ns ∧ 0 ≤ a ∧ a ≤ 2 ^ 47 ∧ qs.length ≤ 4 ∧ D.nx (Gl ns a b v2 v3 v4 v5 v6 v7 v8 (fr (dI qs)) (fr (.list ((List.range (2 ^ qs.length)).map fun i => nuD (g i)))) v11 (fr (fiD qs g)) v13 v14 v15 v16 v17 v18 v19 v20 v21 v22)
def R_law_12 : DS := fun D Γ => ∃ ns a b v2 v3 v4 v5 v6 v7 v8 v10 v11 v12 v13 v14 v15 v16 v17 v18 v19 v20 v21 v22 qs, Γ = Gl ns a b v2 v3 v4 v5 v6 v7 v8 (fr (dI qs)) v10 v11 v12 v13 v14 v15 v16 v17 v18 v19 v20 v21 v22 ∧ SOk ns ∧ 0 ≤ a ∧ a ≤ 2 ^ 47 ∧ 1 ≤ qs.length ∧ qs.length ≤ 4 ∧ ∀ q a' b', q ∈ qs → a ≤ a' → a' ≤ a + 1 → D.nx (Gl ns a' b' v2 v3 v4 v5 v6 v7 v8 (fr (dI qs)) v10 v11 v12 (fr (.int q)) v14 v15 v16 v17 v18 v19 v20 v21 v22)
def R_law_13 : DS := fun D Γ => ∃ ns a b v2 v5 v6 v7 v8 v9 v10 v12 v14 v15 v16 v17 v18 v19 v20 v21 v22 qs g q p t, Γ = Gl ns a b v2 (fr (.str (pst p))) (fr (.int t)) v5 v6 v7 v8 v9 v10 (fr (stD qs (tld g))) v12 (fr (.int q)) v14 v15 v16 v17 v18 v19 v20 v21 v22 ∧ SOk ns ∧ 0 ≤ a ∧ a ≤ 2 ^ 47 ∧ q ∈ qs ∧ qs.Nodup ∧ qs.length ≤ 3 ∧ p < 3 ∧ RR 0 (2 ^ qs.length) (tld g) g ∧ ∀ G1 G2, RR 24 (2 ^ (remQ qs q).length) G1 (fnd qs q p t g) → RR 24 (2 ^ (remQ qs q).length) G2 (fnd qs q p (t + 4) g) → D.nx (Gl ns a b v2 (fr (.str (pst p))) (fr (.int t)) v5 v6 v7 v8 v9 v10 (fr (stD qs (tld g))) v12 (fr (.int q)) (fr (stD (remQ qs q) G1)) (fr (stD (remQ qs q) G2)) v16 v17 v18 v19 v20 v21 v22)
def R_law_14 : DS := fun D Γ => ∃ ns a b v2 v5 v6 v7 v8 v9 v10 v11 v16 v17 v18 v19 v20 v21 v22 qs g q p t G1 G2, Γ = Gl ns a b v2 (fr (.str (pst p))) (fr (.int t)) v5 v6 v7 v8 v9 v10 v11 (fr (fiD qs g)) (fr (.int q)) (fr (stD (remQ qs q) G1)) (fr (stD (remQ qs q) G2)) v16 v17 v18 v19 v20 v21 v22 ∧ SOk ns ∧ 0 ≤ a ∧ a ≤ 2 ^ 47 ∧ q ∈ qs ∧ qs.Nodup ∧ qs.length ≤ 3 ∧ p < 3 ∧ RR 0 (2 ^ qs.length) (tld g) g ∧ RR 24 (2 ^ (remQ qs q).length) G1 (fnd qs q p t g) ∧ RR 24 (2 ^ (remQ qs q).length) G2 (fnd qs q p (t + 4) g) ∧ D.nx (Gl ns a b v2 (fr (.str (pst p))) (fr (.int t)) v5 v6 v7 v8 v9 v10 v11 (fr (fiD qs g)) (fr (.int q)) (fr (stD (remQ qs q) G1)) (fr (stD (remQ qs q) G2)) v16 v17 v18 v19 v20 v21 v22)
def R_law_15 : DS := fun D Γ => ∃ ns a b v2 v3 v4 v5 v6 v7 v8 v9 v10 v11 v12 v13 v16 v17 v18 v19 v20 v21 v22 qs q G1 G2 F1 F2, Γ = Gl ns a b v2 v3 v4 v5 v6 v7 v8 v9 v10 v11 v12 v13 (fr (stD (remQ qs q) G1)) (fr (stD (remQ qs q) G2)) v16 v17 v18 v19 v20 v21 v22 ∧ SOk ns ∧ 0 ≤ a ∧ a ≤ 2 ^ 47 ∧ qs.length ≤ 3 ∧ q ∈ qs ∧ RR 24 (2 ^ (remQ qs q).length) G1 F1 ∧ RR 24 (2 ^ (remQ qs q).length) G2 F2 ∧ ∀ v21, D.nx (Gl ns a b v2 v3 v4 v5 v6 v7 v8 v9 v10 v11 v12 v13 (fr (stD (remQ qs q) G1)) (fr (stD (remQ qs q) G2)) (fr (nuD (plL (sumL (ows (2 ^ (remQ qs q).length) G1)) (sumL (ows (2 ^ (remQ qs q).length) G2))))) v17 v18 v19 v20 v21 v22)
def R_law_16 : DS := fun D Γ => ∃ ns a b v2 v3 v4 v5 v6 v7 v8 v9 v11 v12 v13 v14 v15 v17 v18 v19 v20 v21 v22 qs g q p t G1 G2, Γ = Gl ns a b v2 v3 v4 v5 v6 v7 v8 v9 (fr (.list ((List.range (2 ^ qs.length)).map fun i => nuD (g i)))) v11 v12 v13 v14 v15 (fr (nuD (plL (sumL (ows (2 ^ (remQ qs q).length) G1)) (sumL (ows (2 ^ (remQ qs q).length) G2))))) v17 v18 v19 v20 v21 v22 ∧ SOk ns ∧ 0 ≤ a ∧ a ≤ 2 ^ 47 ∧ q ∈ qs ∧ qs.length ≤ 3 ∧ p < 3 ∧ Nsm (2 ^ qs.length) g ∧ RR 24 (2 ^ (remQ qs q).length) G1 (fnd qs q p t g) ∧ RR 24 (2 ^ (remQ qs q).length) G2 (fnd qs q p (t + 4) g) ∧ D.nx (Gl ns a b v2 v3 v4 v5 v6 v7 v8 v9 (fr (.list ((List.range (2 ^ qs.length)).map fun i => nuD (g i)))) v11 v12 v13 v14 v15 (fr (nuD (plL (sumL (ows (2 ^ (remQ qs q).length) G1)) (sumL (ows (2 ^ (remQ qs q).length) G2))))) v17 v18 v19 v20 v21 v22)
def R_law_17 : DS := fun D Γ => ∃ ns a b v2 v5 v6 v7 v8 v9 v10 v11 v12 v13 v14 v15 v16 v17 v18 v19 v20 v21 v22 p t, Γ = Gl ns a b v2 (fr (.str (pst p))) (fr (.int t)) v5 v6 v7 v8 v9 v10 v11 v12 v13 v14 v15 v16 v17 v18 v19 v20 v21 v22 ∧ SOk ns ∧ 0 ≤ a ∧ a ≤ 2 ^ 47 ∧ p < 3 ∧ D.nx (Gl ns a b v2 (fr (.str (pst p))) (fr (.int t)) v5 v6 v7 v8 v9 v10 v11 v12 v13 v14 v15 v16 (fr (.int (byx p t))) v18 v19 v20 v21 v22)
def R_law_18 : DS := fun D Γ => ∃ ns a b v2 v5 v6 v7 v8 v9 v10 v11 v12 v13 v14 v15 v16 v17 v18 v19 v20 v21 v22 p t, Γ = Gl ns a b v2 (fr (.str (pst p))) (fr (.int t)) v5 v6 v7 v8 v9 v10 v11 v12 v13 v14 v15 v16 v17 v18 v19 v20 v21 v22 ∧ SOk ns ∧ 0 ≤ a ∧ a ≤ 2 ^ 47 ∧ p < 3 ∧ D.nx (Gl ns a b v2 (fr (.str (pst p))) (fr (.int t)) v5 v6 v7 v8 v9 v10 v11 v12 v13 v14 v15 v16 v17 (fr (.int (byz p t))) v19 v20 v21 v22)
def R_law_19 : DS := fun D Γ => ∃ ns a b v2 v5 v6 v7 v8 v9 v10 v12 v14 v15 v16 v19 v20 v21 v22 qs g q p t, Γ = Gl ns a b v2 (fr (.str (pst p))) (fr (.int t)) v5 v6 v7 v8 v9 v10 (fr (stD qs (tld g))) v12 (fr (.int q)) v14 v15 v16 (fr (.int (byx p t))) (fr (.int (byz p t))) v19 v20 v21 v22 ∧ SOk ns ∧ 0 ≤ a ∧ a ≤ 2 ^ 47 ∧ q ∈ qs ∧ qs.Nodup ∧ qs.length ≤ 3 ∧ p < 3 ∧ RR 0 (2 ^ qs.length) (tld g) g ∧ Nsm (2 ^ qs.length) g ∧ ∀ v19 v20 v21 v22, D.nx (Gl ns a b v2 (fr (.str (pst p))) (fr (.int t)) v5 v6 v7 v8 v9 v10 (fr (stD qs (tld g))) v12 (fr (.int q)) v14 v15 v16 (fr (.int (byx p t))) (fr (.int (byz p t))) v19 v20 v21 v22)
def R_law_19_0 : DS := fun D Γ => ∃ ns a b v2 v5 v6 v7 v8 v9 v10 v12 v14 v15 v16 v17 v18 v21 v22 qs g q p t gx nw bx nx, Γ = Gl ns a b v2 (fr (.str (pst p))) (fr (.int t)) v5 v6 v7 v8 v9 v10 (fr (stD qs (tld g))) v12 (fr (.int q)) v14 v15 v16 v17 v18 (fr (stD qs gx)) (fr (.int nw)) v21 v22 ∧ SOk ns ∧ 0 ≤ a ∧ a ≤ 2 ^ 47 ∧ q ∈ qs ∧ qs.Nodup ∧ qs.length ≤ 3 ∧ p < 3 ∧ RR 0 (2 ^ qs.length) (tld g) g ∧ bx ≤ 1 ∧ RR bx (2 ^ qs.length) gx nx ∧ ∀ G1 G2, RR 25 (2 ^ (remQ qs q).length) G1 (fnd qs q p t nx) → RR 25 (2 ^ (remQ qs q).length) G2 (fnd qs q p nw g) → D.nx (Gl ns a b v2 (fr (.str (pst p))) (fr (.int t)) v5 v6 v7 v8 v9 v10 (fr (stD qs (tld g))) v12 (fr (.int q)) v14 v15 v16 v17 v18 (fr (stD qs gx)) (fr (.int nw)) (fr (am (2 ^ (remQ qs q).length) G1)) (fr (am (2 ^ (remQ qs q).length) G2)))
def R_law_19_1 : DS := fun D Γ => ∃ ns a b v2 v3 v4 v5 v6 v7 v8 v9 v10 v11 v12 v13 v14 v15 v16 v17 v18 v19 v20 qs q G1 G2 F1 F2 j, Γ = Gl ns a b v2 v3 v4 v5 v6 v7 v8 v9 v10 v11 v12 v13 v14 v15 v16 v17 v18 v19 v20 (fr (am (2 ^ (remQ qs q).length) G1)) (fr (am (2 ^ (remQ qs q).length) G2)) ∧ SOk ns ∧ 0 ≤ a ∧ a ≤ 2 ^ 47 ∧ qs.length ≤ 3 ∧ q ∈ qs ∧ RR 25 (2 ^ (remQ qs q).length) G1 F1 ∧ RR 25 (2 ^ (remQ qs q).length) G2 F2 ∧ j < 8 ∧ (∀ (i : Nat) u v, (ows (2 ^ (remQ qs q).length) G1)[i]? = some u → (ows (2 ^ (remQ qs q).length) G2)[i]? = some v → Eqv (mul (wp ((j : Nat) : Int)) u.1) (2 * (0 + u.2)) v.1 (2 * v.2)) ∧ D.nx (Gl ns a b v2 v3 v4 v5 v6 v7 v8 v9 v10 v11 v12 v13 v14 v15 v16 v17 v18 v19 v20 (fr (am (2 ^ (remQ qs q).length) G1)) (fr (am (2 ^ (remQ qs q).length) G2)))
abbrev s_law : Stmt := top 45
 def sp_law : DSp := fun ρs k => ∃ ns, ρs = [.scr ns] ∧ SOk ns ∧ k (.fro (.bool true)) ρs
abbrev N_law : List Str := ["script", "state", "k", "plane", "turns", "told", "due", "other", "cross", "qubits", "amplitudes", "given", "field", "qubit", "first", "second", "both", "by_x", "by_z", "turned", "new", "one", "two", "part"]
theorem sc_law : FnScope N_law ["script"] (defScope s_law) := ⟨rfl, rfl, rfl, by decide +kernel, rfl, by decide +kernel, by decide +kernel⟩
theorem ok_law (F : Fun K "law" "law" s_law f fd) (c_plane_state : Cal P w K mg base T k "plane_state" ["plane", "turns"] sp_plane_state) (c__law_plane : Cal P w K mg base T k "_law_plane" ["plane", "turns"] sp__law_plane) (c__law_plus : Cal P w K mg base T k "_law_plus" ["one", "other"] sp__law_plus) (c__law_qubits : Cal P w K mg base T k "_law_qubits" ["state", "script", "most"] sp__law_qubits) (c__law_state : Cal P w K mg base T k "_law_state" ["state", "script", "qubits"] sp__law_state) (c__law_field : Cal P w K mg base T k "_law_field" ["qubits", "amplitudes"] sp__law_field) (c__law_draw : Cal P w K mg base T k "_law_draw" ["state", "script", "size"] sp__law_draw) (c__law_by : Cal P w K mg base T k "_law_by" ["one", "other"] sp__law_by) (c_project : Cal P w K mg base T k "project" ["state", "qubit", "plane", "turns"] sp_project) (c__law_sum : Cal P w K mg base T k "_law_sum" ["row"] sp__law_sum) (c__law_like : Cal P w K mg base T k "_law_like" ["one", "other"] sp__law_like) (c__law_is : Cal P w K mg base T k "_law_is" ["told", "due"] sp__law_is) (c__law_bar : Cal P w K mg base T k "_law_bar" ["one"] sp__law_bar) (c__law_same_field : Cal P w K mg base T k "_law_same_field" ["told", "field"] sp__law_same_field) (c_pauli_x : Cal P w K mg base T k "pauli_x" ["state", "qubit"] sp_pauli_x) (c_pauli_z : Cal P w K mg base T k "pauli_z" ["state", "qubit"] sp_pauli_z) (c__law_unit_alike : Cal P w K mg base T k "_law_unit_alike" ["one", "other"] sp__law_unit_alike) (c__law_told : Cal P w K mg base T k "_law_told" ["number"] sp__law_told) (c__law_found : Cal P w K mg base T k "_law_found" ["field", "qubit", "plane", "turns"] sp__law_found) (c__law_own : Cal P w K mg base T k "_law_own" ["number"] sp__law_own) (m_isinstance : mg "isinstance" = none) (m_len : mg "len" = none) (m_range : mg "range" = none) (m_tuple : mg "tuple" = none) :
    FnOk P w K mg base CX0 (k + 1) f fd ["script"] (spD K T sp_law) := by
  refine F.okD T sc_law [] (fun ρs k ⟨ns, e0, so, h⟩ => by subst e0; exact ⟨rfl, rfl⟩) fun cdv A outer s H E B ρs k' hcd0 hr ⟨ns, e0, so, h⟩ hB => ?_
  refine ⟨_, 
(ds_cons (ds_set (i := 1) sc_law.nd rfl (.inl rfl) (de_lst (da_cons de_int (da_cons de_int da_nil))))
 (ds_cons (ds_for PassesOwn.never rfl (di_range1 rfl m_range (PE.toB de_int)) (dg_name sc_law.nd (i := 2) rfl (.inl rfl))
 (ds_cons (ds_to (R_law_0) (ds_set (i := 3) sc_law.nd rfl (.inl rfl) (PE.fr (de_ix (de_lst (da_cons de_str (da_cons de_str (da_cons de_str da_nil)))) (PE.toB (ce c__law_draw hr (ar_own (pv 1) (ar_own (pv 0) (ar_cons de_int ar_nil)))))))) ?c0)
 (ds_cons (ds_to (R_law_1) (ds_set (i := 4) sc_law.nd rfl (.inl rfl) (PE.fr (de_sub (ce c__law_draw hr (ar_own (pv 1) (ar_own (pv 0) (ar_cons de_int ar_nil)))) (PE.toB de_int)))) ?c1)
 (ds_cons (ds_to (R_law_2) (ds_set (i := 5) sc_law.nd rfl (.inl rfl) (PE.fr (ce c_plane_state hr (ar_cons (nv 3) (ar_cons (nv 4) ar_nil))))) ?c2)
 (ds_cons (ds_to (R_law_3) (ds_set (i := 6) sc_law.nd rfl (.inl rfl) (PE.fr (ce c__law_plane hr (ar_cons (nv 3) (ar_cons (nv 4) ar_nil))))) ?c3)
 (ds_cons (ds_to (R_law_4) (ds_if (PW.pt (dw_or (dt_not (tst (de_isi isT_tuple rfl m_isinstance rfl m_tuple boot_tuple (nb 5)))) (dw_or (t_ne hr (bLen m_len (nb 5)) (PE.toB de_int)) (dw_or (dt_not (tst (ce c__law_is hr (ar_cons (de_ix (nv 5) (PE.toB de_int)) (ar_cons (de_ix (nv 6) (PE.toB de_int)) ar_nil))))) (dw_or1 (dt_not (tst (ce c__law_is hr (ar_cons (de_ix (nv 5) (PE.toB de_int)) (ar_cons (de_ix (nv 6) (PE.toB de_int)) ar_nil))))))))))
 (ds_one (ds_ret (PE.fr de_bl)))
 ds_nil) ?c4)
 (ds_cons (ds_to (R_law_5) (ds_set (i := 7) sc_law.nd rfl (.inl rfl) (PE.fr (ce c__law_plane hr (ar_cons (nv 3) (ar_cons (de_add (nv 4) (PE.toB de_int)) ar_nil))))) ?c5)
 (ds_cons (ds_to (R_law_6) (ds_set (i := 8) sc_law.nd rfl (.inl rfl) (PE.fr (ce c__law_plus hr (ar_cons (ce c__law_by hr (ar_cons (ce c__law_bar hr (ar_cons (de_ix (nv 6) (PE.toB de_int)) ar_nil)) (ar_cons (de_ix (nv 7) (PE.toB de_int)) ar_nil))) (ar_cons (ce c__law_by hr (ar_cons (ce c__law_bar hr (ar_cons (de_ix (nv 6) (PE.toB de_int)) ar_nil)) (ar_cons (de_ix (nv 7) (PE.toB de_int)) ar_nil))) ar_nil))))) ?c6)
 (ds_cons (ds_to (R_law_7) (ds_if (PW.pt (dw_or (dt_not (tst (ce c__law_like hr (ar_cons (ce c__law_sum hr (ar_cons (nv 6) ar_nil)) (ar_cons (de_tup (da_cons (de_lst (da_cons de_int (da_cons de_int (da_cons de_int (da_cons de_int da_nil))))) (da_cons de_int da_nil))) ar_nil))))) (dw_or1 (dt_not (tst (ce c__law_like hr (ar_cons (nv 8) (ar_cons (de_tup (da_cons (de_lst (da_cons de_int (da_cons de_int (da_cons de_int (da_cons de_int da_nil))))) (da_cons de_int da_nil))) ar_nil))))))))
 (ds_one (ds_ret (PE.fr de_bl)))
 ds_nil) ?c7)
 (ds_cons (ds_to (R_law_8) (ds_set (i := 9) sc_law.nd rfl (.inl rfl) (PE.fr (ce c__law_qubits hr (ar_own (pv 1) (ar_own (pv 0) (ar_cons de_int ar_nil)))))) ?c8)
 (ds_cons (ds_to (R_law_9) (ds_set (i := 10) sc_law.nd rfl (.inl rfl) (PE.fr (ce c__law_state hr (ar_own (pv 1) (ar_own (pv 0) (ar_cons (nv 9) ar_nil)))))) ?c9)
 (ds_cons (ds_to (R_law_10) (ds_set (i := 11) sc_law.nd rfl (.inl rfl) (PE.fr (de_tup (da_cons (nv 9) (da_cons (bTuple m_tuple (PE.toB (de_lc rfl sc_law.nd (di_row (nv 10)) (blkW N_law (defScope s_law) [("one", 21)] (by decide +kernel)) (fun B s H C cl fp => (dg_name sc_law.nd (i := 21) rfl (.inl rfl))) (fun B s H C cl fp => dts_nil) (fun B s H C cl fp => (ce c__law_told hr (ar_cons (nv 21) ar_nil)))))) da_nil))))) ?c10)
 (ds_cons (ds_to (R_law_11) (ds_set (i := 12) sc_law.nd rfl (.inl rfl) (PE.fr (ce c__law_field hr (ar_cons (nv 9) (ar_cons (nv 10) ar_nil))))) ?c11)
 (ds_cons (ds_to (R_law_12) (ds_set (i := 13) sc_law.nd rfl (.inl rfl) (PE.fr (de_ix (nv 9) (PE.toB (ce c__law_draw hr (ar_own (pv 1) (ar_own (pv 0) (ar_cons (bLen m_len (nb 9)) ar_nil)))))))) ?c12)
 (ds_cons (ds_to (R_law_13) (ds_par (i := 14) (j := 15) rfl sc_law.nd rfl rfl (by decide) rfl rfl (da_cons (ce c_project hr (ar_cons (nv 11) (ar_cons (nv 13) (ar_cons (nv 3) (ar_cons (nv 4) ar_nil))))) (da_cons (ce c_project hr (ar_cons (nv 11) (ar_cons (nv 13) (ar_cons (nv 3) (ar_cons (de_add (nv 4) (PE.toB de_int)) ar_nil))))) da_nil)) rfl) ?c13)
 (ds_cons (ds_to (R_law_14) (ds_if (PW.pt (dw_or (dt_not (tst (ce c__law_same_field hr (ar_cons (nv 14) (ar_cons (ce c__law_found hr (ar_cons (nv 12) (ar_cons (nv 13) (ar_cons (nv 3) (ar_cons (nv 4) ar_nil))))) ar_nil))))) (dw_or1 (dt_not (tst (ce c__law_same_field hr (ar_cons (nv 15) (ar_cons (ce c__law_found hr (ar_cons (nv 12) (ar_cons (nv 13) (ar_cons (nv 3) (ar_cons (de_add (nv 4) (PE.toB de_int)) ar_nil))))) ar_nil))))))))
 (ds_one (ds_ret (PE.fr de_bl)))
 ds_nil) ?c14)
 (ds_cons (ds_to (R_law_15) (ds_set (i := 16) sc_law.nd rfl (.inl rfl) (PE.fr (ce c__law_plus hr (ar_cons (ce c__law_sum hr (ar_cons (de_lc rfl sc_law.nd (di_row (de_ix (nv 14) (PE.toB de_int))) (blkW N_law (defScope s_law) [("one", 21)] (by decide +kernel)) (fun B s H C cl fp => (dg_name sc_law.nd (i := 21) rfl (.inl rfl))) (fun B s H C cl fp => dts_nil) (fun B s H C cl fp => (ce c__law_own hr (ar_cons (nv 21) ar_nil)))) ar_nil)) (ar_cons (ce c__law_sum hr (ar_cons (de_lc rfl sc_law.nd (di_row (de_ix (nv 15) (PE.toB de_int))) (blkW N_law (defScope s_law) [("one", 21)] (by decide +kernel)) (fun B s H C cl fp => (dg_name sc_law.nd (i := 21) rfl (.inl rfl))) (fun B s H C cl fp => dts_nil) (fun B s H C cl fp => (ce c__law_own hr (ar_cons (nv 21) ar_nil)))) ar_nil)) ar_nil))))) ?c15)
 (ds_cons (ds_to (R_law_16) (ds_if (dt_not (tst (ce c__law_like hr (ar_cons (nv 16) (ar_cons (ce c__law_sum hr (ar_cons (nv 10) ar_nil)) ar_nil)))))
 (ds_one (ds_ret (PE.fr de_bl)))
 ds_nil) ?c16)
 (ds_cons (ds_to (R_law_17) (ds_set (i := 17) sc_law.nd rfl (.inl rfl) (PE.fr (de_ixA hr (PE.frd (de_disp (dps_cons (fun B => de_str) (fun B => (de_sub de_int (nb 4))) (dps_cons (fun B => de_str) (fun B => (de_add (nv 4) (PE.toB de_int))) (dps_cons (fun B => de_str) (fun B => (de_sub de_int (nb 4))) dps_nil))))) (nb 3)))) ?c17)
 (ds_cons (ds_to (R_law_18) (ds_set (i := 18) sc_law.nd rfl (.inl rfl) (PE.fr (de_ixA hr (PE.frd (de_disp (dps_cons (fun B => de_str) (fun B => (de_add (nv 4) (PE.toB de_int))) (dps_cons (fun B => de_str) (fun B => (de_sub de_int (nb 4))) (dps_cons (fun B => de_str) (fun B => (de_sub de_int (nb 4))) dps_nil))))) (nb 3)))) ?c18)
 (ds_one (ds_to (R_law_19) (ds_for PassesOwn.never rfl (di_row (de_tup (da_cons (de_tup (da_cons (ce c_pauli_x hr (ar_cons (nv 11) (ar_cons (nv 13) ar_nil))) (da_cons (nv 17) da_nil))) (da_cons (de_tup (da_cons (ce c_pauli_z hr (ar_cons (nv 11) (ar_cons (nv 13) ar_nil))) (da_cons (nv 18) da_nil))) da_nil)))) (dg_row (n := 2) rfl (dgs_cons (dg_name sc_law.nd (i := 19) rfl (.inl rfl)) (dgs_cons (dg_name sc_law.nd (i := 20) rfl (.inl rfl)) dgs_nil)))
 (ds_cons (ds_to (R_law_19_0) (ds_par (i := 21) (j := 22) rfl sc_law.nd rfl rfl (by decide) rfl rfl (da_cons (de_ix (ce c_project hr (ar_cons (nv 19) (ar_cons (nv 13) (ar_cons (nv 3) (ar_cons (nv 4) ar_nil))))) (PE.toB de_int)) (da_cons (de_ix (ce c_project hr (ar_cons (nv 11) (ar_cons (nv 13) (ar_cons (nv 3) (ar_cons (nv 20) ar_nil))))) (PE.toB de_int)) da_nil)) rfl) ?c19_0)
 (ds_one (ds_to (R_law_19_1) (ds_if (dt_not (tst (ce c__law_unit_alike hr (ar_cons (de_lc rfl sc_law.nd (di_row (nv 21)) (blkW N_law (defScope s_law) [("part", 23)] (by decide +kernel)) (fun B s H C cl fp => (dg_name sc_law.nd (i := 23) rfl (.inl rfl))) (fun B s H C cl fp => dts_nil) (fun B s H C cl fp => (ce c__law_own hr (ar_cons (nv 23) ar_nil)))) (ar_cons (de_lc rfl sc_law.nd (di_row (nv 22)) (blkW N_law (defScope s_law) [("part", 23)] (by decide +kernel)) (fun B s H C cl fp => (dg_name sc_law.nd (i := 23) rfl (.inl rfl))) (fun B s H C cl fp => dts_nil) (fun B s H C cl fp => (ce c__law_own hr (ar_cons (nv 23) ar_nil)))) ar_nil)))))
 (ds_one (ds_ret (PE.fr de_bl)))
 ds_nil) ?c19_1)))) ?c19))))))))))))))))))))))
 (ds_one (ds_ret (PE.fr de_bl))))), ?_⟩
  case c0 =>
    rintro D _ ⟨ns, a, b, v2, v3, v4, v5, v6, v7, v8, v9, v10, v11, v12, v13, v14, v15, v16, v17, v18, v19, v20, v21, v22, rfl, so, a0, a1, h⟩
    refine ⟨L rfl, nd2, a, b, ns, 3, rfl, so, a0, by omega, by decide, by decide, fun d a2 b2 d0 d1 h1 h2 => ?_⟩
    obtain ⟨t, rfl⟩ : ∃ t : Nat, d = ((t : Nat) : Int) := ⟨d.toNat, by omega⟩
    exact ⟨_, pst_at t (by omega), L rfl, h t a2 b2 (by omega) h1 h2⟩
  case c1 =>
    rintro D _ ⟨ns, a, b, v2, v3, v4, v5, v6, v7, v8, v9, v10, v11, v12, v13, v14, v15, v16, v17, v18, v19, v20, v21, v22, rfl, so, a0, a1, h⟩
    exact ⟨nd2, a, b, ns, 32, rfl, so, a0, by omega, by decide, by decide, fun d a2 b2 d0 d1 h1 h2 => ⟨L rfl, h (d - 12) a2 b2 h1 h2⟩⟩
  case c2 =>
    rintro D _ ⟨ns, a, b, v2, v5, v6, v7, v8, v9, v10, v11, v12, v13, v14, v15, v16, v17, v18, v19, v20, v21, v22, p, t, rfl, so, a0, a1, hp, h⟩
    exact ⟨List.nodup_nil, p, t, rfl, hp, fun l hh ql qh => ⟨L rfl, h l hh ql qh⟩⟩
  case c3 =>
    rintro D _ ⟨ns, a, b, v2, v5, v6, v7, v8, v9, v10, v11, v12, v13, v14, v15, v16, v17, v18, v19, v20, v21, v22, p, t, rfl, so, a0, a1, hp, h⟩
    exact ⟨List.nodup_nil, p, t, rfl, hp, L rfl, h⟩
  case c4 =>
    rintro D _ ⟨ns, a, b, v2, v3, v4, v7, v8, v9, v10, v11, v12, v13, v14, v15, v16, v17, v18, v19, v20, v21, v22, p, t, l, hh, rfl, so, a0, a1, hp, ql, qh, h⟩
    have ⟨⟨lb, l0, l9⟩, ⟨hb, h0, h9⟩⟩ := pl_bd t hp
    have p1 := ql.pu; have p2 := qh.pu
    refine ⟨⟨rfl, rfl⟩, ?_⟩
    refine ⟨_, rfl, _, rfl, List.nodup_nil, l.1, l.2, (lo p t).1, (lo p t).2, rfl, ql.can, ql.eqv, ql.bu.mono (by omega), lb.mono (by omega), by omega, ⟨l0, by omega⟩, ?_⟩
    exact ⟨_, rfl, _, rfl, List.nodup_nil, hh.1, hh.2, (hi p t).1, (hi p t).2, rfl, qh.can, qh.eqv, qh.bu.mono (by omega), hb.mono (by omega), by omega, ⟨h0, by omega⟩, h⟩
  case c5 =>
    rintro D _ ⟨ns, a, b, v2, v5, v6, v7, v8, v9, v10, v11, v12, v13, v14, v15, v16, v17, v18, v19, v20, v21, v22, p, t, rfl, so, a0, a1, hp, h⟩
    exact ⟨List.nodup_nil, p, t + 4, rfl, hp, L rfl, h⟩
  case c6 =>
    rintro D _ ⟨ns, a, b, v2, v3, v4, v5, v8, v9, v10, v11, v12, v13, v14, v15, v16, v17, v18, v19, v20, v21, v22, p, t, rfl, so, a0, a1, hp, h⟩
    have ⟨⟨lb, l0, l9⟩, ⟨hb, h0, h9⟩⟩ := pl_bd t hp
    have ⟨⟨lb', l0', l9'⟩, ⟨hb', h0', h9'⟩⟩ := pl_bd (t + 4) hp
    refine ⟨_, rfl, List.nodup_nil, (lo p t).1, (lo p t).2, rfl, ?_⟩
    refine ⟨_, rfl, List.nodup_nil, conj (lo p t).1, (lo p t).2, (lo p (t + 4)).1, (lo p (t + 4)).2, rfl, (bd_conj lb).mono (by omega), lb'.mono (by omega), ?_⟩
    refine ⟨_, rfl, List.nodup_nil, (hi p t).1, (hi p t).2, rfl, ?_⟩
    refine ⟨_, rfl, List.nodup_nil, conj (hi p t).1, (hi p t).2, (hi p (t + 4)).1, (hi p (t + 4)).2, rfl, (bd_conj hb).mono (by omega), hb'.mono (by omega), ?_⟩
    refine ⟨List.nodup_nil, _, _, _, _, rfl, (bd_mul (bd_conj lb) lb').mono (by omega), (bd_mul (bd_conj hb) hb').mono (by omega), ⟨by omega, by omega⟩, ⟨by omega, by omega⟩, ?_⟩
    exact ⟨L rfl, h⟩
  case c7 =>
    rintro D _ ⟨ns, a, b, v2, v3, v4, v5, v7, v9, v10, v11, v12, v13, v14, v15, v16, v17, v18, v19, v20, v21, v22, p, t, rfl, so, a0, a1, hp, h⟩
    have ⟨⟨lb, l0, l9⟩, ⟨hb, h0, h9⟩⟩ := pl_bd t hp
    have ⟨⟨lb', l0', l9'⟩, ⟨hb', h0', h9'⟩⟩ := pl_bd (t + 4) hp
    have sm : ∀ v ∈ [lo p t, hi p t], SmL v := fun v hv => by
      simp only [List.mem_cons, List.not_mem_nil, or_false] at hv
      rcases hv with rfl | rfl
      · exact ⟨lb.mono (by omega), l0, by omega⟩
      · exact ⟨hb.mono (by omega), h0, by omega⟩
    obtain ⟨s1, s2, s3⟩ := sum_top sm
    have cb : Bd 400000 (crs p t).1 ∧ 0 ≤ (crs p t).2 ∧ (crs p t).2 ≤ 20 := by
      refine ⟨(bd_plL (n := 210) ((bd_mul (bd_conj lb) lb').mono (by omega)) ((bd_mul (bd_conj hb) hb').mono (by omega)) ?_ ?_ ?_ ?_).mono (by omega), ?_, ?_⟩
      · show 0 ≤ (lo p t).2 + (lo p (t + 4)).2; omega
      · show (lo p t).2 + (lo p (t + 4)).2 ≤ _; omega
      · show 0 ≤ (hi p t).2 + (hi p (t + 4)).2; omega
      · show (hi p t).2 + (hi p (t + 4)).2 ≤ _; omega
      · show 0 ≤ max ((lo p t).2 + (lo p (t + 4)).2) _; omega
      · show max ((lo p t).2 + (lo p (t + 4)).2) ((hi p t).2 + (hi p (t + 4)).2) ≤ _; omega
    refine ⟨List.nodup_nil, _, [lo p t, hi p t], rfl, rfl, L rfl, sm, L rfl, L rfl, ?_⟩
    refine ⟨List.nodup_nil, _, _, one, 0, rfl, s1.mono (L rfl), (show Bd 1 one from bd_wp 0).mono (by omega), ⟨s2, by omega⟩, ⟨by decide, by decide⟩, fun b1 hb1 => ?_⟩
    rw [hb1 (norm_like t hp)]
    refine ⟨L rfl, L rfl, ?_⟩
    refine ⟨List.nodup_nil, _, _, zero, 0, rfl, cb.1.mono (by omega), (bd_zero 1).mono (by omega), ⟨cb.2.1, by omega⟩, ⟨by decide, by decide⟩, fun b2 hb2 => ?_⟩
    rw [hb2 (cross_like t hp)]
    exact h
  case c8 =>
    rintro D _ ⟨ns, a, b, v2, v3, v4, v5, v6, v7, v8, v9, v10, v11, v12, v13, v14, v15, v16, v17, v18, v19, v20, v21, v22, rfl, so, a0, a1, h⟩
    refine ⟨nd2, a, b, ns, 3, rfl, so, a0, by omega, by decide, by decide, fun qs a2 b2 pw l1 l3 hm h1 h2 => ?_⟩
    exact ⟨L rfl, h qs a2 b2 pw l1 l3 hm h1 h2⟩
  case c9 =>
    rintro D _ ⟨ns, a, b, v2, v3, v4, v5, v6, v7, v8, v10, v11, v12, v13, v14, v15, v16, v17, v18, v19, v20, v21, v22, qs, rfl, so, a0, a1, hl, h⟩
    refine ⟨nd2, a, b, ns, qs, rfl, so, a0, by omega, hl, fun g a2 b2 hg h1 h2 => ?_⟩
    exact ⟨L rfl, h g a2 b2 hg h1 h2⟩
  case c10 =>
    rintro D _ ⟨ns, a, b, v2, v3, v4, v5, v6, v7, v8, v11, v12, v13, v14, v15, v16, v17, v18, v19, v20, v21, v22, qs, g, rfl, so, a0, a1, hl, hg, h⟩
    have t16 := two16 hl
    refine ⟨_, rfl, ?_⟩
    refine lc_all (List.range (2 ^ qs.length)) (fun i => nuD (g i)) (fun i => t5 (tld g i).1 (tld g i).2) rfl (by rw [List.length_range]; omega) (fun i hi yes no hh => ?_) ?_
    · have hi := rng_mem hi
      obtain ⟨b1, b2, b3⟩ := hg i hi
      refine ⟨L rfl, List.nodup_nil, (g i).1, (g i).2, rfl, ⟨b2, by omega⟩, fun y q hy => ?_⟩
      obtain ⟨rfl, rfl⟩ := exF_eq hy
      exact hh _ rfl
    · exact ⟨L rfl, L rfl, h _⟩
  case c11 =>
    rintro D _ ⟨ns, a, b, v2, v3, v4, v5, v6, v7, v8, v11, v12, v13, v14, v15, v16, v17, v18, v19, v20, v21, v22, qs, g, rfl, so, a0, a1, hl, h⟩
    exact ⟨List.nodup_nil, qs, g, rfl, hl, L rfl, h⟩
  case c12 =>
    rintro D _ ⟨ns, a, b, v2, v3, v4, v5, v6, v7, v8, v10, v11, v12, v13, v14, v15, v16, v17, v18, v19, v20, v21, v22, qs, rfl, so, a0, a1, l1, hl, h⟩
    refine ⟨nd2, a, b, ns, ((qs.map PyData.int).length : Nat), rfl, so, a0, by omega, by rw [List.length_map]; omega, by rw [List.length_map]; omega, fun d a2 b2 d0 d1 h1 h2 => ?_⟩
    rw [List.length_map] at d1
    obtain ⟨i, rfl⟩ : ∃ i : Nat, d = ((i : Nat) : Int) := ⟨d.toNat, by omega⟩
    have il : i < qs.length := by omega
    exact ⟨_, map_at rfl (List.getElem?_eq_getElem il), L rfl, h qs[i] a2 b2 (List.getElem_mem il) h1 h2⟩
  case c13 =>
    rintro D _ ⟨ns, a, b, v2, v5, v6, v7, v8, v9, v10, v12, v14, v15, v16, v17, v18, v19, v20, v21, v22, qs, g, q, p, t, rfl, so, a0, a1, hq, nd, hl, hp, rr, h⟩
    refine ⟨List.nodup_nil, qs, tld g, g, 0, q, p, t, rfl, hq, nd, by omega, hp, by omega, rr, fun G1 g1 => ?_⟩
    refine ⟨List.nodup_nil, qs, tld g, g, 0, q, p, t + 4, rfl, hq, nd, by omega, hp, by omega, rr, fun G2 g2 => ?_⟩
    exact ⟨⟨L rfl, L rfl⟩, h G1 G2 g1 g2⟩
  case c14 =>
    rintro D _ ⟨ns, a, b, v2, v5, v6, v7, v8, v9, v10, v11, v16, v17, v18, v19, v20, v21, v22, qs, g, q, p, t, G1, G2, rfl, so, a0, a1, hq, nd, hl, hp, rr, g1, g2, h⟩
    have rl := remQ_len hq
    refine ⟨List.nodup_nil, qs, g, q, p, t, rfl, hq, by omega, hp, rr.gdl (by omega), ?_⟩
    refine ⟨List.nodup_nil, remQ qs q, G1, _, rfl, by omega, g1.rel (by omega), ?_⟩
    refine ⟨List.nodup_nil, qs, g, q, p, t + 4, rfl, hq, by omega, hp, rr.gdl (by omega), ?_⟩
    exact ⟨List.nodup_nil, remQ qs q, G2, _, rfl, by omega, g2.rel (by omega), h⟩
  case c15 =>
    rintro D _ ⟨ns, a, b, v2, v3, v4, v5, v6, v7, v8, v9, v10, v11, v12, v13, v16, v17, v18, v19, v20, v21, v22, qs, q, G1, G2, F1, F2, rfl, so, a0, a1, hl, hq, g1, g2, h⟩
    have m8 := rem8 hq hl
    have l1 : (ows (2 ^ (remQ qs q).length) G1).length = 2 ^ (remQ qs q).length := by unfold ows; rw [List.length_map, List.length_range]
    have l2 : (ows (2 ^ (remQ qs q).length) G2).length = 2 ^ (remQ qs q).length := by unfold ows; rw [List.length_map, List.length_range]
    obtain ⟨u1, u2, u3⟩ := sum_top (ows_sm (by omega) g1)
    obtain ⟨w1, w2, w3⟩ := sum_top (ows_sm (by omega) g2)
    refine ⟨_, rfl, _, rfl, ?_⟩
    refine lc_all (List.range (2 ^ (remQ qs q).length)) (fun i => t5 (G1 i).1 (G1 i).2) (fun i => nuD (ownL (G1 i))) rfl (by rw [List.length_range]; omega) (fun i hi yes no hh => ?_) ?_
    · refine ⟨L rfl, List.nodup_nil, (G1 i).1, (G1 i).2, rfl, fun ho => ?_, fun ho => ?_⟩
      · rw [show ownL (G1 i) = (rt (G1 i).1, ((G1 i).2 + 1) / 2) from if_pos ho] at hh
        exact hh _ rfl
      · rw [show ownL (G1 i) = ((G1 i).1, (G1 i).2 / 2) from if_neg ho] at hh
        exact hh _ rfl
    refine ⟨List.nodup_nil, _, ows (2 ^ (remQ qs q).length) G1, rfl, by show some _ = some _; unfold ows; rw [List.map_map]; rfl, by omega, ows_sm (by omega) g1, ?_⟩
    refine ⟨_, rfl, _, rfl, ?_⟩
    refine lc_all (List.range (2 ^ (remQ qs q).length)) (fun i => t5 (G2 i).1 (G2 i).2) (fun i => nuD (ownL (G2 i))) rfl (by rw [List.length_range]; omega) (fun i hi yes no hh => ?_) ?_
    · refine ⟨L rfl, List.nodup_nil, (G2 i).1, (G2 i).2, rfl, fun ho => ?_, fun ho => ?_⟩
      · rw [show ownL (G2 i) = (rt (G2 i).1, ((G2 i).2 + 1) / 2) from if_pos ho] at hh
        exact hh _ rfl
      · rw [show ownL (G2 i) = ((G2 i).1, (G2 i).2 / 2) from if_neg ho] at hh
        exact hh _ rfl
    refine ⟨List.nodup_nil, _, ows (2 ^ (remQ qs q).length) G2, rfl, by show some _ = some _; unfold ows; rw [List.map_map]; rfl, by omega, ows_sm (by omega) g2, ?_⟩
    refine ⟨List.nodup_nil, _, _, _, _, rfl, u1.mono (by omega), w1.mono (by omega), ⟨u2, by omega⟩, ⟨w2, by omega⟩, ?_⟩
    exact ⟨L rfl, h _⟩
  case c16 =>
    rintro D _ ⟨ns, a, b, v2, v3, v4, v5, v6, v7, v8, v9, v11, v12, v13, v14, v15, v17, v18, v19, v20, v21, v22, qs, g, q, p, t, G1, G2, rfl, so, a0, a1, hq, hl, hp, hn, g1, g2, h⟩
    have m8 := rem8 hq hl
    have t16 := two16 (show qs.length ≤ 4 by omega)
    obtain ⟨s1, s2, s3⟩ := sum_top (ns_sm hn)
    obtain ⟨u1, u2, u3⟩ := sum_top (ows_sm (by omega) g1)
    obtain ⟨w1, w2, w3⟩ := sum_top (ows_sm (by omega) g2)
    have l1 : (ows (2 ^ (remQ qs q).length) G1).length ≤ 8 := by unfold ows; rw [List.length_map, List.length_range]; exact m8
    have l2 : (ows (2 ^ (remQ qs q).length) G2).length ≤ 8 := by unfold ows; rw [List.length_map, List.length_range]; exact m8
    have l3 : ((List.range (2 ^ qs.length)).map g).length ≤ 16 := by rw [List.length_map, List.length_range]; exact t16
    refine ⟨List.nodup_nil, _, (List.range (2 ^ qs.length)).map g, rfl, by show some _ = some _; rw [List.map_map]; rfl, by omega, ns_sm hn, ?_⟩
    refine ⟨List.nodup_nil, _, _, _, _, rfl, (bd_plL (n := 300000) (u1.mono (by omega)) (w1.mono (by omega)) u2 (by omega) w2 (by omega)).mono (by omega), s1.mono (by omega), ⟨by show 0 ≤ max _ _; omega, by show max _ _ ≤ _; omega⟩, ⟨s2, by omega⟩, fun b1 hb1 => ?_⟩
    rw [hb1 (both_like hq hl hp (by omega) hn g1 g2)]
    exact h
  case c17 =>
    rintro D _ ⟨ns, a, b, v2, v5, v6, v7, v8, v9, v10, v11, v12, v13, v14, v15, v16, v17, v18, v19, v20, v21, v22, p, t, rfl, so, a0, a1, hp, h⟩
    refine ⟨⟨[.inr (Str.ofString "XY"), .inr (Str.ofString "YZ"), .inr (Str.ofString "XZ")], rfl, by decide +kernel, by decide⟩, ?_⟩
    rcases (show p = 0 ∨ p = 1 ∨ p = 2 by omega) with rfl | rfl | rfl
    · exact ⟨0, _, rfl, L rfl, h⟩
    · exact ⟨2, _, rfl, L rfl, h⟩
    · exact ⟨1, _, rfl, L rfl, h⟩
  case c18 =>
    rintro D _ ⟨ns, a, b, v2, v5, v6, v7, v8, v9, v10, v11, v12, v13, v14, v15, v16, v17, v18, v19, v20, v21, v22, p, t, rfl, so, a0, a1, hp, h⟩
    refine ⟨⟨[.inr (Str.ofString "XY"), .inr (Str.ofString "YZ"), .inr (Str.ofString "XZ")], rfl, by decide +kernel, by decide⟩, ?_⟩
    rcases (show p = 0 ∨ p = 1 ∨ p = 2 by omega) with rfl | rfl | rfl
    · exact ⟨0, _, rfl, L rfl, h⟩
    · exact ⟨2, _, rfl, L rfl, h⟩
    · exact ⟨1, _, rfl, L rfl, h⟩
  case c19 =>
    rintro D _ ⟨ns, a, b, v2, v5, v6, v7, v8, v9, v10, v12, v14, v15, v16, v19, v20, v21, v22, qs, g, q, p, t, rfl, so, a0, a1, hq, nd, hl, hp, rr, hn, h⟩
    have hl4 : qs.length ≤ 4 := by omega
    refine ⟨List.nodup_nil, qs, tld g, q, rfl, hq, hl4, L rfl, ?_⟩
    refine ⟨List.nodup_nil, qs, tld g, q, rfl, hq, hl4, rr.gd' (by omega), L rfl, L rfl, ?_⟩
    refine ⟨_, rfl, rfl, fun i Γ => i ≤ 2 ∧ ∃ w19 w20 w21 w22, Γ = Gl ns a b v2 (fr (.str (pst p))) (fr (.int t)) v5 v6 v7 v8 v9 v10 (fr (stD qs (tld g))) v12 (fr (.int q)) v14 v15 v16 (fr (.int (byx p t))) (fr (.int (byz p t))) w19 w20 w21 w22, ⟨by omega, _, _, _, _, rfl⟩, ?_, ?_⟩
    · rintro i d _ hd ⟨hi, w19, w20, w21, w22, rfl⟩
      have hi2 := getElem?_len hd
      rcases (show i = 0 ∨ i = 1 from by have : i < 2 := hi2; omega) with rfl | rfl
      · obtain rfl := Option.some.inj hd
        refine ⟨_, rfl, rfl, L rfl, L rfl, ?_⟩
        refine ⟨ns, a, b, _, _, _, _, _, _, _, _, _, _, _, _, _, _, _, qs, g, q, p, t, (fun i => tld g (flipN i (sh qs q))), byx p t, 0, gate 0 qs q 0 g, rfl, so, a0, a1, hq, nd, hl, hp, rr, by omega, rr_x rr hl4 hq, fun G1 G2 g1 g2 => ?_⟩
        obtain ⟨j, hj, hu⟩ := unit_x hq hl hp (by omega) hn g1 g2
        refine ⟨ns, a, b, _, _, _, _, _, _, _, _, _, _, _, _, _, _, _, _, _, _, _, qs, q, G1, G2, _, _, j, rfl, so, a0, a1, hl, hq, g1, g2, hj, hu, ?_⟩
        exact ⟨by omega, _, _, _, _, rfl⟩
      · obtain rfl := Option.some.inj hd
        refine ⟨_, rfl, rfl, L rfl, L rfl, ?_⟩
        refine ⟨ns, a, b, _, _, _, _, _, _, _, _, _, _, _, _, _, _, _, qs, g, q, p, t, (turnF qs q 4 (tld g)), byz p t, 1, gate 1 qs q 4 g, rfl, so, a0, a1, hq, nd, hl, hp, rr, by omega, rr_t (q := q) 4 rr, fun G1 G2 g1 g2 => ?_⟩
        obtain ⟨j, hj, hu⟩ := unit_z hq hl hp (by omega) hn g1 g2
        refine ⟨ns, a, b, _, _, _, _, _, _, _, _, _, _, _, _, _, _, _, _, _, _, _, qs, q, G1, G2, _, _, j, rfl, so, a0, a1, hl, hq, g1, g2, hj, hu, ?_⟩
        exact ⟨by omega, _, _, _, _, rfl⟩
    · rintro _ ⟨hi, w19, w20, w21, w22, rfl⟩
      exact h _ _ _ _
  case c19_0 =>
    rintro D _ ⟨ns, a, b, v2, v5, v6, v7, v8, v9, v10, v12, v14, v15, v16, v17, v18, v21, v22, qs, g, q, p, t, gx, nw, bx, nx, rfl, so, a0, a1, hq, nd, hl, hp, rr, hb, rx, h⟩
    refine ⟨List.nodup_nil, qs, gx, nx, bx, q, p, t, rfl, hq, nd, by omega, hp, by omega, rx, fun G1 g1 => ?_⟩
    refine ⟨_, rfl, List.nodup_nil, qs, tld g, g, 0, q, p, nw, rfl, hq, nd, by omega, hp, by omega, rr, fun G2 g2 => ?_⟩
    exact ⟨_, rfl, ⟨L rfl, L rfl⟩, h G1 G2 (fun i hi => (g1 i hi).le (by omega)) (fun i hi => (g2 i hi).le (by omega))⟩
  case c19_1 =>
    rintro D _ ⟨ns, a, b, v2, v3, v4, v5, v6, v7, v8, v9, v10, v11, v12, v13, v14, v15, v16, v17, v18, v19, v20, qs, q, G1, G2, F1, F2, j, rfl, so, a0, a1, hl, hq, g1, g2, hj, hu, h⟩
    have m8 := rem8 hq hl
    have l1 : (ows (2 ^ (remQ qs q).length) G1).length = 2 ^ (remQ qs q).length := by unfold ows; rw [List.length_map, List.length_range]
    have l2 : (ows (2 ^ (remQ qs q).length) G2).length = 2 ^ (remQ qs q).length := by unfold ows; rw [List.length_map, List.length_range]
    refine ⟨_, rfl, ?_⟩
    refine lc_all (List.range (2 ^ (remQ qs q).length)) (fun i => t5 (G1 i).1 (G1 i).2) (fun i => nuD (ownL (G1 i))) rfl (by rw [List.length_range]; omega) (fun i hi yes no hh => ?_) ?_
    · refine ⟨L rfl, List.nodup_nil, (G1 i).1, (G1 i).2, rfl, fun ho => ?_, fun ho => ?_⟩
      · rw [show ownL (G1 i) = (rt (G1 i).1, ((G1 i).2 + 1) / 2) from if_pos ho] at hh
        exact hh _ rfl
      · rw [show ownL (G1 i) = ((G1 i).1, (G1 i).2 / 2) from if_neg ho] at hh
        exact hh _ rfl
    refine ⟨_, rfl, ?_⟩
    refine lc_all (List.range (2 ^ (remQ qs q).length)) (fun i => t5 (G2 i).1 (G2 i).2) (fun i => nuD (ownL (G2 i))) rfl (by rw [List.length_range]; omega) (fun i hi yes no hh => ?_) ?_
    · refine ⟨L rfl, List.nodup_nil, (G2 i).1, (G2 i).2, rfl, fun ho => ?_, fun ho => ?_⟩
      · rw [show ownL (G2 i) = (rt (G2 i).1, ((G2 i).2 + 1) / 2) from if_pos ho] at hh
        exact hh _ rfl
      · rw [show ownL (G2 i) = ((G2 i).1, (G2 i).2 / 2) from if_neg ho] at hh
        exact hh _ rfl
    exact ⟨List.nodup_nil, ows (2 ^ (remQ qs q).length) G1, ows (2 ^ (remQ qs q).length) G2, j, by unfold ows; rw [List.map_map, List.map_map]; rfl, by omega, by omega, ows_sm (by omega) g1, ows_sm (by omega) g2, hj, hu, h⟩
  subst e0
  refine ⟨L rfl, L rfl, ?_⟩
  refine ⟨⟨by decide, by decide⟩, rfl, ?_⟩
  refine ⟨fun i Γ => ∃ (a b : Int) (v2 v3 v4 v5 v6 v7 v8 v9 v10 v11 v12 v13 v14 v15 v16 v17 v18 v19 v20 v21 v22 : Option Rv), 0 ≤ a ∧ a ≤ 1000 * i ∧ Γ = Gl ns a b v2 v3 v4 v5 v6 v7 v8 v9 v10 v11 v12 v13 v14 v15 v16 v17 v18 v19 v20 v21 v22, ⟨0, 0, _, _, _, _, _, _, _, _, _, _, _, _, _, _, _, _, _, _, _, _, _, by omega, by omega, rfl⟩, ?_, ?_⟩
  · rintro i d _ hd ⟨a, b, v2, v3, v4, v5, v6, v7, v8, v9, v10, v11, v12, v13, v14, v15, v16, v17, v18, v19, v20, v21, v22, a0, a1, rfl⟩
    obtain ⟨hi2, rfl⟩ := rngD_get hd
    have hi3 : i < 3 := hi2
    refine ⟨L rfl, ?_⟩
    refine ⟨ns, a, b, _, _, _, _, _, _, _, _, _, _, _, _, _, _, _, _, _, _, _, _, _, rfl, so, by omega, by omega, fun p a2 b2 hp h1 h2 => ?_⟩
    refine ⟨ns, a2, b2, _, _, _, _, _, _, _, _, _, _, _, _, _, _, _, _, _, _, _, _, _, rfl, so, by omega, by omega, fun t a3 b3 h3 h4 => ?_⟩
    refine ⟨ns, a3, b3, _, _, _, _, _, _, _, _, _, _, _, _, _, _, _, _, _, _, _, p, t, rfl, so, by omega, by omega, hp, fun l hh ql qh => ?_⟩
    refine ⟨ns, a3, b3, _, _, _, _, _, _, _, _, _, _, _, _, _, _, _, _, _, _, _, p, t, rfl, so, by omega, by omega, hp, ?_⟩
    refine ⟨ns, a3, b3, _, _, _, _, _, _, _, _, _, _, _, _, _, _, _, _, _, _, _, p, t, l, hh, rfl, so, by omega, by omega, hp, ql, qh, ?_⟩
    refine ⟨ns, a3, b3, _, _, _, _, _, _, _, _, _, _, _, _, _, _, _, _, _, _, _, p, t, rfl, so, by omega, by omega, hp, ?_⟩
    refine ⟨ns, a3, b3, _, _, _, _, _, _, _, _, _, _, _, _, _, _, _, _, _, _, _, p, t, rfl, so, by omega, by omega, hp, ?_⟩
    refine ⟨ns, a3, b3, _, _, _, _, _, _, _, _, _, _, _, _, _, _, _, _, _, _, _, p, t, rfl, so, by omega, by omega, hp, ?_⟩
    refine ⟨ns, a3, b3, _, _, _, _, _, _, _, _, _, _, _, _, _, _, _, _, _, _, _, _, _, rfl, so, by omega, by omega, fun qs a4 b4 pw l1 l3 hm h5 h6 => ?_⟩
    have hl3 : qs.length ≤ 3 := by omega
    have hl : qs.length ≤ 4 := by omega
    have nd : qs.Nodup := pw.imp fun h => Int.ne_of_lt h
    refine ⟨ns, a4, b4, _, _, _, _, _, _, _, _, _, _, _, _, _, _, _, _, _, _, _, _, qs, rfl, so, by omega, by omega, hl, fun g a5 b5 hg h7 h8 => ?_⟩
    have rr : RR 0 (2 ^ qs.length) (tld g) g := fun i hi => q_tld (hg i hi)
    refine ⟨ns, a5, b5, _, _, _, _, _, _, _, _, _, _, _, _, _, _, _, _, _, _, _, qs, g, rfl, so, by omega, by omega, hl, hg, fun w21 => ?_⟩
    refine ⟨ns, a5, b5, _, _, _, _, _, _, _, _, _, _, _, _, _, _, _, _, _, _, _, qs, g, rfl, so, by omega, by omega, hl, ?_⟩
    refine ⟨ns, a5, b5, _, _, _, _, _, _, _, _, _, _, _, _, _, _, _, _, _, _, _, _, qs, rfl, so, by omega, by omega, l1, hl, fun q a6 b6 hq h9 h10 => ?_⟩
    refine ⟨ns, a6, b6, _, _, _, _, _, _, _, _, _, _, _, _, _, _, _, _, _, qs, g, q, p, t, rfl, so, by omega, by omega, hq, nd, hl3, hp, rr, fun G1 G2 g1 g2 => ?_⟩
    refine ⟨ns, a6, b6, _, _, _, _, _, _, _, _, _, _, _, _, _, _, _, qs, g, q, p, t, G1, G2, rfl, so, by omega, by omega, hq, nd, hl3, hp, rr, g1, g2, ?_⟩
    refine ⟨ns, a6, b6, _, _, _, _, _, _, _, _, _, _, _, _, _, _, _, _, _, _, _, qs, q, G1, G2, _, _, rfl, so, by omega, by omega, hl3, hq, g1, g2, fun w21 => ?_⟩
    refine ⟨ns, a6, b6, _, _, _, _, _, _, _, _, _, _, _, _, _, _, _, _, _, _, _, qs, g, q, p, t, G1, G2, rfl, so, by omega, by omega, hq, hl3, hp, hg, g1, g2, ?_⟩
    refine ⟨ns, a6, b6, _, _, _, _, _, _, _, _, _, _, _, _, _, _, _, _, _, _, _, p, t, rfl, so, by omega, by omega, hp, ?_⟩
    refine ⟨ns, a6, b6, _, _, _, _, _, _, _, _, _, _, _, _, _, _, _, _, _, _, _, p, t, rfl, so, by omega, by omega, hp, ?_⟩
    refine ⟨ns, a6, b6, _, _, _, _, _, _, _, _, _, _, _, _, _, _, _, qs, g, q, p, t, rfl, so, by omega, by omega, hq, nd, hl3, hp, rr, hg, fun w19 w20 w21 w22 => ?_⟩
    exact ⟨a6, b6, _, _, _, _, _, _, _, _, _, _, _, _, _, _, _, _, _, _, _, _, _, by omega, by push_cast; omega, rfl⟩
  · rintro _ ⟨a, b, v2, v3, v4, v5, v6, v7, v8, v9, v10, v11, v12, v13, v14, v15, v16, v17, v18, v19, v20, v21, v22, a0, a1, rfl⟩
    exact h
end
end K73
set_option Elab.async false
set_option linter.all false
set_option maxRecDepth 100000
set_option maxHeartbeats 4000000
namespace K73
open PySem PySem.Spec PyProof.Rows L2 Dn Zw
def fn : List He.DefD := [dd "by_root" s_by_root, dd "exact" s_exact, dd "unit" s_unit, dd "add" s_add, dd "times" s_times, dd "negate" s_negate, dd "conjugate" s_conjugate, dd "scaled" s_scaled, dd "shift_of" s_shift_of, dd "pauli_x" s_pauli_x, dd "turn" s_turn, dd "pauli_z" s_pauli_z, dd "plane_state" s_plane_state, dd "project" s_project, dd "_law_refill" s__law_refill, dd "_law_draw" s__law_draw, dd "_law_exact" s__law_exact, dd "_law_own" s__law_own, dd "_law_plus" s__law_plus, dd "_law_by" s__law_by, dd "_law_like" s__law_like, dd "_law_w" s__law_w, dd "_law_minus" s__law_minus, dd "_law_bar" s__law_bar, dd "_law_form" s__law_form, dd "_law_is" s__law_is, dd "_law_number" s__law_number, dd "_law_told" s__law_told, dd "_law_root" s__law_root, dd "_law_figures" s__law_figures, dd "_law_field" s__law_field, dd "_law_plane" s__law_plane, dd "_law_found" s__law_found, dd "_law_row" s__law_row, dd "_law_same_field" s__law_same_field, dd "_law_unit_alike" s__law_unit_alike, dd "_law_state" s__law_state, dd "_law_qubits" s__law_qubits, dd "_law_sum" s__law_sum, dd "law" s_law]
def fa : List He.Fa := [.glo "by_root", .glo "exact", .glo "unit", .glo "add", .glo "times", .glo "negate", .glo "conjugate", .glo "scaled", .glo "shift_of", .glo "pauli_x", .glo "turn", .glo "pauli_z", .glo "plane_state", .glo "project", .glo "_law_refill", .glo "_law_draw", .glo "_law_exact", .glo "_law_own", .glo "_law_plus", .glo "_law_by", .glo "_law_like", .glo "_law_w", .glo "_law_minus", .glo "_law_bar", .glo "_law_form", .glo "_law_is", .glo "_law_number", .glo "_law_told", .glo "_law_root", .glo "_law_figures", .glo "_law_field", .glo "_law_plane", .glo "_law_found", .glo "_law_row", .glo "_law_same_field", .glo "_law_unit_alike", .glo "_law_state", .glo "_law_qubits", .glo "_law_sum", .glo "law", .free "abs", .free "all", .free "bool", .free "enumerate", .free "int", .free "isinstance", .free "len", .free "list", .free "max", .free "range", .free "set", .free "sorted", .free "str", .free "tuple", .free "zip", .glo "ONE", .glo "ZERO", .int "IMAGINARY" 2]
def mo : PySem.W.Frag → Bool := fun K => (tupNB K "ONE" [.int 1, .int 0, .int 0, .int 0, .int 0]) && (tupNB K "ZERO" [.int 0, .int 0, .int 0, .int 0, .int 0])
def tb : List (Str × Option Str) := [("exact", none)]
abbrev R : PySem.W.OpenRow := PySem.W.OpenLaw.row PySem.Challenge.rw_allbranches_k73_planes_and_paulis
abbrev hk : PySem.W.Hook := hookM 4 fa fn mo tb
def ob (s : PySem.W.SharedT) : AlM := obsMG 4 fa fn mo tb (HandSHeadRun.getT s)
theorem ob_eq (s : PySem.W.SharedT) : ob s = hk.obs s.abs := obsMG_eq (HandSHeadRun.getT_eq s)
abbrev loose : List Str := (["by_root", "exact", "unit", "add", "times", "negate", "conjugate", "scaled", "shift_of", "pauli_x", "turn", "pauli_z", "plane_state", "project", "_law_refill", "_law_draw", "_law_exact", "_law_own", "_law_plus", "_law_by"] : List Str) ++ (["_law_like", "_law_w", "_law_minus", "_law_bar", "_law_form", "_law_is", "_law_number", "_law_told", "_law_root", "_law_figures", "_law_field", "_law_plane", "_law_found", "_law_row", "_law_same_field", "_law_unit_alike", "_law_state", "_law_qubits", "_law_sum", "ZERO"] : List Str) ++ (["ONE", "IMAGINARY"] : List Str)
theorem run (w : World) : HandSHeadRun.RunEq R (PySem.W.view R.prog [45]) hk ob 2000 loose w := by
  intro os
  kernel_rfl
theorem facts {P : Program} {w : World} {K : PySem.W.Frag} {h : Heap} {mg : Str → Option Value} {f : Addr} (X : K.In h) (G : h.Ns mainGlobals mg) (hfa : mg ("law" : Str) = some (.ref f)) (c : He.SaysD fa fn K) (hm : mo K = true) {c_0 P_0 : Addr} (t_0 : tabC K ("exact", none) = some (c_0, P_0)) :
    ∃ fd : FuncData, (∀ (s : Shared) (v : Value), BindsTo s fd ⟨[v], []⟩ [("script", v)]) ∧ ∀ base : Heap, K.In base → base.Ns mainGlobals mg → GxR.TabB base mg c_0 P_0 → FnOk P w K mg base CX0 6 f fd ["script"] (spD K (fun a => a = P_0) sp_law) := by
  obtain ⟨fd, F⟩ := c.def_ 39 (d := dd "law" s_law) rfl
  have e := hfa.symm.trans (He.glo_ok X G (c.fact 39 (f := .glo "law") rfl))
  cases e
  have b := FunD.bindsA (ps := ["script"]) F fun _ _ _ _ _ _ us hl => match us, hl with | [_], _ => rfl
  refine ⟨fd, fun s v => b s [v] rfl, fun base _ _ b_0 => ?_⟩
  have m_abs : mg ("abs" : Str) = none := He.free_ok X G (c.fact 40 (f := .free "abs") rfl)
  have m_all : mg ("all" : Str) = none := He.free_ok X G (c.fact 41 (f := .free "all") rfl)
  have m_bool : mg ("bool" : Str) = none := He.free_ok X G (c.fact 42 (f := .free "bool") rfl)
  have m_enumerate : mg ("enumerate" : Str) = none := He.free_ok X G (c.fact 43 (f := .free "enumerate") rfl)
  have m_int : mg ("int" : Str) = none := He.free_ok X G (c.fact 44 (f := .free "int") rfl)
  have m_isinstance : mg ("isinstance" : Str) = none := He.free_ok X G (c.fact 45 (f := .free "isinstance") rfl)
  have m_len : mg ("len" : Str) = none := He.free_ok X G (c.fact 46 (f := .free "len") rfl)
  have m_list : mg ("list" : Str) = none := He.free_ok X G (c.fact 47 (f := .free "list") rfl)
  have m_max : mg ("max" : Str) = none := He.free_ok X G (c.fact 48 (f := .free "max") rfl)
  have m_range : mg ("range" : Str) = none := He.free_ok X G (c.fact 49 (f := .free "range") rfl)
  have m_set : mg ("set" : Str) = none := He.free_ok X G (c.fact 50 (f := .free "set") rfl)
  have m_sorted : mg ("sorted" : Str) = none := He.free_ok X G (c.fact 51 (f := .free "sorted") rfl)
  have m_str : mg ("str" : Str) = none := He.free_ok X G (c.fact 52 (f := .free "str") rfl)
  have m_tuple : mg ("tuple" : Str) = none := He.free_ok X G (c.fact 53 (f := .free "tuple") rfl)
  have m_zip : mg ("zip" : Str) = none := He.free_ok X G (c.fact 54 (f := .free "zip") rfl)
  obtain ⟨hm_ONE, hm_ZERO⟩ := He.ba hm
  have g_ONE : Glb K mg "ONE" (t5 one 0) := ⟨.ref (He.ga K "ONE"), .ref (He.ga K "ONE"), He.glo_ok X G (c.fact 55 (f := .glo "ONE") rfl), rfl, fun F => .tup (tupNB_ok hm_ONE F) (RepFs.ints (ns := [1, 0, 0, 0, 0]))⟩
  have g_ZERO : Glb K mg "ZERO" (t5 zero 0) := ⟨.ref (He.ga K "ZERO"), .ref (He.ga K "ZERO"), He.glo_ok X G (c.fact 56 (f := .glo "ZERO") rfl), rfl, fun F => .tup (tupNB_ok hm_ZERO F) (RepFs.ints (ns := [0, 0, 0, 0, 0]))⟩
  have g_IMAGINARY : Glb K mg "IMAGINARY" (.int 2) := by
    obtain ⟨t, e⟩ := He.int_ok X G (c.fact 57 (f := .int "IMAGINARY" 2) rfl)
    exact ⟨.int 2, .int 2 t, e, ⟨t, rfl⟩, fun F => .int 2⟩
  have c_unit : Cal P w K mg base (fun a => a = P_0) 1 "unit" ["turns"] sp_unit := cal_of c X G 2 2 rfl rfl (fun _ _ _ _ _ _ us hl => match us, hl with | [_], _ => rfl) fun f fd e F hc => ok_unit (k := 0) F m_tuple
  have c_by_root : Cal P w K mg base (fun a => a = P_0) 1 "by_root" ["number"] sp_by_root := cal_of c X G 0 0 rfl rfl (fun _ _ _ _ _ _ us hl => match us, hl with | [_], _ => rfl) fun f fd e F hc => ok_by_root (k := 0) F 
  have c_exact : Cal P w K mg base (fun a => a = P_0) 2 "exact" ["first", "second", "third", "fourth", "power"] sp_exact := cal_of c X G 1 1 rfl rfl (fun _ _ _ _ _ _ us hl => match us, hl with | [_, _, _, _, _], _ => rfl) fun f fd e F hc => ok_exact (k := 1) F rfl b_0 (hc _ _ t_0) (c_by_root.up (by decide)) m_all m_tuple g_ZERO
  have c_scaled : Cal P w K mg base (fun a => a = P_0) 3 "scaled" ["number", "power"] sp_scaled := cal_of c X G 7 7 rfl rfl (fun _ _ _ _ _ _ us hl => match us, hl with | [_, _], _ => rfl) fun f fd e F hc => ok_scaled (k := 2) F (c_exact.up (by decide))
  have c_add : Cal P w K mg base (fun a => a = P_0) 3 "add" ["one", "other"] sp_add := cal_of c X G 3 3 rfl rfl (fun _ _ _ _ _ _ us hl => match us, hl with | [_, _], _ => rfl) fun f fd e F hc => ok_add (k := 2) F (c_exact.up (by decide)) (c_by_root.up (by decide)) m_max m_range m_zip
  have c_negate : Cal P w K mg base (fun a => a = P_0) 1 "negate" ["number"] sp_negate := cal_of c X G 5 5 rfl rfl (fun _ _ _ _ _ _ us hl => match us, hl with | [_], _ => rfl) fun f fd e F hc => ok_negate (k := 0) F m_tuple
  have c_times : Cal P w K mg base (fun a => a = P_0) 3 "times" ["one", "other"] sp_times := cal_of c X G 4 4 rfl rfl (fun _ _ _ _ _ _ us hl => match us, hl with | [_, _], _ => rfl) fun f fd e F hc => ok_times (k := 2) F (c_exact.up (by decide)) m_enumerate
  have c_plane_state : Cal P w K mg base (fun a => a = P_0) 4 "plane_state" ["plane", "turns"] sp_plane_state := cal_of c X G 12 12 rfl rfl (fun _ _ _ _ _ _ us hl => match us, hl with | [_, _], _ => rfl) fun f fd e F hc => ok_plane_state (k := 3) F (c_unit.up (by decide)) (c_scaled.up (by decide)) (c_add.up (by decide)) (c_negate.up (by decide)) (c_times.up (by decide)) g_ONE g_IMAGINARY
  have c__law_w : Cal P w K mg base (fun a => a = P_0) 1 "_law_w" ["turns"] sp__law_w := cal_of c X G 21 21 rfl rfl (fun _ _ _ _ _ _ us hl => match us, hl with | [_], _ => rfl) fun f fd e F hc => ok__law_w (k := 0) F 
  have c__law_by : Cal P w K mg base (fun a => a = P_0) 1 "_law_by" ["one", "other"] sp__law_by := cal_of c X G 19 19 rfl rfl (fun _ _ _ _ _ _ us hl => match us, hl with | [_, _], _ => rfl) fun f fd e F hc => ok__law_by (k := 0) F m_range
  have c__law_root : Cal P w K mg base (fun a => a = P_0) 2 "_law_root" ["number", "power"] sp__law_root := cal_of c X G 28 28 rfl rfl (fun _ _ _ _ _ _ us hl => match us, hl with | [_, _], _ => rfl) fun f fd e F hc => ok__law_root (k := 1) F (c__law_by.up (by decide)) m_abs m_range
  have c__law_plus : Cal P w K mg base (fun a => a = P_0) 1 "_law_plus" ["one", "other"] sp__law_plus := cal_of c X G 18 18 rfl rfl (fun _ _ _ _ _ _ us hl => match us, hl with | [_, _], _ => rfl) fun f fd e F hc => ok__law_plus (k := 0) F m_max m_range
  have c__law_minus : Cal P w K mg base (fun a => a = P_0) 1 "_law_minus" ["one"] sp__law_minus := cal_of c X G 22 22 rfl rfl (fun _ _ _ _ _ _ us hl => match us, hl with | [_], _ => rfl) fun f fd e F hc => ok__law_minus (k := 0) F 
  have c__law_plane : Cal P w K mg base (fun a => a = P_0) 3 "_law_plane" ["plane", "turns"] sp__law_plane := cal_of c X G 31 31 rfl rfl (fun _ _ _ _ _ _ us hl => match us, hl with | [_, _], _ => rfl) fun f fd e F hc => ok__law_plane (k := 2) F (c__law_w.up (by decide)) (c__law_root.up (by decide)) (c__law_plus.up (by decide)) (c__law_by.up (by decide)) (c__law_minus.up (by decide))
  have c__law_refill : Cal P w K mg base (fun a => a = P_0) 1 "_law_refill" ["script", "k"] sp__law_refill := cal_of c X G 14 14 rfl rfl (fun _ _ _ _ _ _ us hl => match us, hl with | [_, _], _ => rfl) fun f fd e F hc => ok__law_refill (k := 0) F m_int m_len
  have c__law_draw : Cal P w K mg base (fun a => a = P_0) 2 "_law_draw" ["state", "script", "size"] sp__law_draw := cal_of c X G 15 15 rfl rfl (fun _ _ _ _ _ _ us hl => match us, hl with | [_, _, _], _ => rfl) fun f fd e F hc => ok__law_draw (k := 1) F (c__law_refill.up (by decide)) m_int
  have c__law_qubits : Cal P w K mg base (fun a => a = P_0) 3 "_law_qubits" ["state", "script", "most"] sp__law_qubits := cal_of c X G 37 37 rfl rfl (fun _ _ _ _ _ _ us hl => match us, hl with | [_, _, _], _ => rfl) fun f fd e F hc => ok__law_qubits (k := 2) F (c__law_draw.up (by decide)) m_range m_set m_sorted m_tuple
  have c__law_number : Cal P w K mg base (fun a => a = P_0) 3 "_law_number" ["state", "script"] sp__law_number := cal_of c X G 26 26 rfl rfl (fun _ _ _ _ _ _ us hl => match us, hl with | [_, _], _ => rfl) fun f fd e F hc => ok__law_number (k := 2) F (c__law_draw.up (by decide)) m_range
  have c__law_state : Cal P w K mg base (fun a => a = P_0) 4 "_law_state" ["state", "script", "qubits"] sp__law_state := cal_of c X G 36 36 rfl rfl (fun _ _ _ _ _ _ us hl => match us, hl with | [_, _, _], _ => rfl) fun f fd e F hc => ok__law_state (k := 3) F (c__law_number.up (by decide)) m_len m_range
  have c__law_figures : Cal P w K mg base (fun a => a = P_0) 1 "_law_figures" ["many"] sp__law_figures := cal_of c X G 29 29 rfl rfl (fun _ _ _ _ _ _ us hl => match us, hl with | [_], _ => rfl) fun f fd e F hc => ok__law_figures (k := 0) F m_range
  have c__law_field : Cal P w K mg base (fun a => a = P_0) 2 "_law_field" ["qubits", "amplitudes"] sp__law_field := cal_of c X G 30 30 rfl rfl (fun _ _ _ _ _ _ us hl => match us, hl with | [_, _], _ => rfl) fun f fd e F hc => ok__law_field (k := 1) F (c__law_figures.up (by decide)) m_len m_range m_tuple
  have c_shift_of : Cal P w K mg base (fun a => a = P_0) 1 "shift_of" ["state", "qubit"] sp_shift_of := cal_of c X G 8 8 rfl rfl (fun _ _ _ _ _ _ us hl => match us, hl with | [_, _], _ => rfl) fun f fd e F hc => ok_shift_of (k := 0) F m_len
  have c_conjugate : Cal P w K mg base (fun a => a = P_0) 1 "conjugate" ["number"] sp_conjugate := cal_of c X G 6 6 rfl rfl (fun _ _ _ _ _ _ us hl => match us, hl with | [_], _ => rfl) fun f fd e F hc => ok_conjugate (k := 0) F 
  have c_project : Cal P w K mg base (fun a => a = P_0) 5 "project" ["state", "qubit", "plane", "turns"] sp_project := cal_of c X G 13 13 rfl rfl (fun _ _ _ _ _ _ us hl => match us, hl with | [_, _, _, _], _ => rfl) fun f fd e F hc => ok_project (k := 4) F (c_shift_of.up (by decide)) (c_conjugate.up (by decide)) (c_plane_state.up (by decide)) (c_add.up (by decide)) (c_times.up (by decide)) m_len m_range m_tuple
  have c__law_bar : Cal P w K mg base (fun a => a = P_0) 1 "_law_bar" ["one"] sp__law_bar := cal_of c X G 23 23 rfl rfl (fun _ _ _ _ _ _ us hl => match us, hl with | [_], _ => rfl) fun f fd e F hc => ok__law_bar (k := 0) F 
  have c__law_sum : Cal P w K mg base (fun a => a = P_0) 2 "_law_sum" ["row"] sp__law_sum := cal_of c X G 38 38 rfl rfl (fun _ _ _ _ _ _ us hl => match us, hl with | [_], _ => rfl) fun f fd e F hc => ok__law_sum (k := 1) F (c__law_plus.up (by decide)) (c__law_by.up (by decide)) (c__law_bar.up (by decide))
  have c__law_like : Cal P w K mg base (fun a => a = P_0) 1 "_law_like" ["one", "other"] sp__law_like := cal_of c X G 20 20 rfl rfl (fun _ _ _ _ _ _ us hl => match us, hl with | [_, _], _ => rfl) fun f fd e F hc => ok__law_like (k := 0) F m_max m_range
  have c__law_form : Cal P w K mg base (fun a => a = P_0) 1 "_law_form" ["number"] sp__law_form := cal_of c X G 24 24 rfl rfl (fun _ _ _ _ _ _ us hl => match us, hl with | [_], _ => rfl) fun f fd e F hc => ok__law_form (k := 0) F m_all m_bool m_int m_isinstance m_len m_tuple
  have c__law_own : Cal P w K mg base (fun a => a = P_0) 1 "_law_own" ["number"] sp__law_own := cal_of c X G 17 17 rfl rfl (fun _ _ _ _ _ _ us hl => match us, hl with | [_], _ => rfl) fun f fd e F hc => ok__law_own (k := 0) F 
  have c__law_is : Cal P w K mg base (fun a => a = P_0) 2 "_law_is" ["told", "due"] sp__law_is := cal_of c X G 25 25 rfl rfl (fun _ _ _ _ _ _ us hl => match us, hl with | [_, _], _ => rfl) fun f fd e F hc => ok__law_is (k := 1) F (c__law_form.up (by decide)) (c__law_like.up (by decide)) (c__law_own.up (by decide))
  have c__law_row : Cal P w K mg base (fun a => a = P_0) 2 "_law_row" ["field"] sp__law_row := cal_of c X G 33 33 rfl rfl (fun _ _ _ _ _ _ us hl => match us, hl with | [_], _ => rfl) fun f fd e F hc => ok__law_row (k := 1) F (c__law_figures.up (by decide)) m_len
  have r0 : Cal P w K mg base (fun a => a = P_0) 0 "_law_exact" ["first", "second"] (sp__law_exact 0) := cal_of c X G 16 16 rfl rfl (fun _ _ _ _ _ _ us hl => match us, hl with | [_, _], _ => rfl) fun f fd e F hc => bot_ok fun _ _ ⟨_, _, z, _⟩ => z
  have r1 : Cal P w K mg base (fun a => a = P_0) 1 "_law_exact" ["first", "second"] (sp__law_exact 1) := cal_of c X G 16 16 rfl rfl (fun _ _ _ _ _ _ us hl => match us, hl with | [_, _], _ => rfl) fun f fd e F hc => ok__law_exact F r0 m_all m_bool m_int m_isinstance m_len m_list m_range m_str m_tuple
  have r2 : Cal P w K mg base (fun a => a = P_0) 2 "_law_exact" ["first", "second"] (sp__law_exact 2) := cal_of c X G 16 16 rfl rfl (fun _ _ _ _ _ _ us hl => match us, hl with | [_, _], _ => rfl) fun f fd e F hc => ok__law_exact F r1 m_all m_bool m_int m_isinstance m_len m_list m_range m_str m_tuple
  have r3 : Cal P w K mg base (fun a => a = P_0) 3 "_law_exact" ["first", "second"] (sp__law_exact 3) := cal_of c X G 16 16 rfl rfl (fun _ _ _ _ _ _ us hl => match us, hl with | [_, _], _ => rfl) fun f fd e F hc => ok__law_exact F r2 m_all m_bool m_int m_isinstance m_len m_list m_range m_str m_tuple
  have r4 : Cal P w K mg base (fun a => a = P_0) 4 "_law_exact" ["first", "second"] (sp__law_exact 4) := cal_of c X G 16 16 rfl rfl (fun _ _ _ _ _ _ us hl => match us, hl with | [_, _], _ => rfl) fun f fd e F hc => ok__law_exact F r3 m_all m_bool m_int m_isinstance m_len m_list m_range m_str m_tuple
  have c__law_exact := r4
  have c__law_same_field : Cal P w K mg base (fun a => a = P_0) 5 "_law_same_field" ["told", "field"] sp__law_same_field := cal_of c X G 34 34 rfl rfl (fun _ _ _ _ _ _ us hl => match us, hl with | [_, _], _ => rfl) fun f fd e F hc => ok__law_same_field (k := 4) F (c__law_row.up (by decide)) (c__law_exact.up (by decide)) (c__law_is.up (by decide)) m_all m_isinstance m_len m_range m_tuple
  have c_pauli_x : Cal P w K mg base (fun a => a = P_0) 2 "pauli_x" ["state", "qubit"] sp_pauli_x := cal_of c X G 9 9 rfl rfl (fun _ _ _ _ _ _ us hl => match us, hl with | [_, _], _ => rfl) fun f fd e F hc => ok_pauli_x (k := 1) F (c_shift_of.up (by decide)) m_len m_range m_tuple
  have c_turn : Cal P w K mg base (fun a => a = P_0) 4 "turn" ["state", "qubit", "turns"] sp_turn := cal_of c X G 10 10 rfl rfl (fun _ _ _ _ _ _ us hl => match us, hl with | [_, _, _], _ => rfl) fun f fd e F hc => ok_turn (k := 3) F (c_shift_of.up (by decide)) (c_unit.up (by decide)) (c_times.up (by decide)) m_enumerate m_tuple
  have c_pauli_z : Cal P w K mg base (fun a => a = P_0) 5 "pauli_z" ["state", "qubit"] sp_pauli_z := cal_of c X G 11 11 rfl rfl (fun _ _ _ _ _ _ us hl => match us, hl with | [_, _], _ => rfl) fun f fd e F hc => ok_pauli_z (k := 4) F (c_turn.up (by decide))
  have c__law_unit_alike : Cal P w K mg base (fun a => a = P_0) 2 "_law_unit_alike" ["one", "other"] sp__law_unit_alike := cal_of c X G 35 35 rfl rfl (fun _ _ _ _ _ _ us hl => match us, hl with | [_, _], _ => rfl) fun f fd e F hc => ok__law_unit_alike (k := 1) F (c__law_like.up (by decide)) (c__law_by.up (by decide)) (c__law_w.up (by decide)) m_all m_len m_range
  have c__law_told : Cal P w K mg base (fun a => a = P_0) 1 "_law_told" ["number"] sp__law_told := cal_of c X G 27 27 rfl rfl (fun _ _ _ _ _ _ us hl => match us, hl with | [_], _ => rfl) fun f fd e F hc => ok__law_told (k := 0) F m_list m_tuple
  have c__law_found : Cal P w K mg base (fun a => a = P_0) 4 "_law_found" ["field", "qubit", "plane", "turns"] sp__law_found := cal_of c X G 32 32 rfl rfl (fun _ _ _ _ _ _ us hl => match us, hl with | [_, _, _, _], _ => rfl) fun f fd e F hc => ok__law_found (k := 3) F (c__law_plane.up (by decide)) (c__law_figures.up (by decide)) (c__law_plus.up (by decide)) (c__law_by.up (by decide)) (c__law_bar.up (by decide)) m_len
  exact ok_law (k := 5) (fun_of F) (c_plane_state.up (by decide)) (c__law_plane.up (by decide)) (c__law_plus.up (by decide)) (c__law_qubits.up (by decide)) (c__law_state.up (by decide)) (c__law_field.up (by decide)) (c__law_draw.up (by decide)) (c__law_by.up (by decide)) (c_project.up (by decide)) (c__law_sum.up (by decide)) (c__law_like.up (by decide)) (c__law_is.up (by decide)) (c__law_bar.up (by decide)) (c__law_same_field.up (by decide)) (c_pauli_x.up (by decide)) (c_pauli_z.up (by decide)) (c__law_unit_alike.up (by decide)) (c__law_told.up (by decide)) (c__law_found.up (by decide)) (c__law_own.up (by decide)) m_isinstance m_len m_range m_tuple
end K73
open PySem PySem.W PySem.Calls PyProof.Rows
theorem PySem.Challenge.cw_allbranches_k73_planes_and_paulis_holds : PySem.Challenge.rw_allbranches_k73_planes_and_paulis.Holds := by
  w_on; o_law
  refine HandSHeadRun.head_any (r := OpenLaw.row PySem.Challenge.rw_allbranches_k73_planes_and_paulis) (q := view (OpenLaw.row PySem.Challenge.rw_allbranches_k73_planes_and_paulis).prog [45]) (H := K73.hk) (ob := K73.ob) (M := 2000) (loose := K73.loose) (d := HandSHeadRun.topDef (OpenLaw.row PySem.Challenge.rw_allbranches_k73_planes_and_paulis).prog 45) (kwd := []) K73.ob_eq
    (by kernel_rfl) (fun s => by kernel_rfl) K73.run (by kernel_rfl) (by kernel_rfl) (by kernel_rfl) (by rfl) (by first | assumption | decide +kernel) (by decide +kernel) ⟨rfl, rfl, rfl, rfl, rfl, by decide +kernel⟩ ?hw ?hc
  case hw => w_witness2
  case hc =>
    refine LamX.walk_ofTsE (l := PySem.Challenge.rw_allbranches_k73_planes_and_paulis) (n := 63) (k := 6) (x := "script") (CX := fun _ => L2.CX0) rfl (by decide) (by kernel_rfl) ⟨rfl, by decide, by decide⟩ ?F (fun _ _ _ _ _ z => z)
    intro w mg fa h Y G hmg0
    obtain ⟨K, KX, c, hm, tb⟩ := Dn.SaysM.open_ Y
    have hmg : mg ("law" : PySem.Str) = some (.ref fa) := by
      have e : (HandSHeadRun.topDef (OpenLaw.row PySem.Challenge.rw_allbranches_k73_planes_and_paulis).prog 45).name = ("law" : PySem.Str) := by kernel_rfl
      rw [← e]
      exact hmg0
    obtain ⟨c_0, P_0, t_0, u_0, v_0, y_0⟩ := tb ("exact", none) (by decide)
    obtain ⟨fd, hb, hF⟩ := K73.facts (P := (PySem.Challenge.rw_allbranches_k73_planes_and_paulis).prog) (w := w) KX G hmg c hm t_0
    refine ⟨K, KX, fd, [(c_0, P_0)], Dn.spD K (fun a => a = P_0) K73.sp_law, ?_, ?_, ?_, hb, ?_, ?_⟩
    · exact fun p hp => by
        simp only [List.mem_cons, List.not_mem_nil, or_false] at hp
        subst hp
        exact u_0
    · exact fun p hp => by
        simp only [List.mem_cons, List.not_mem_nil, or_false] at hp
        subst hp
        exact v_0
    · exact fun p hp => by
        simp only [List.mem_cons, List.not_mem_nil, or_false] at hp
        subst hp
        exact y_0
    · intro H a ns _ hbits hT hS
      refine Dn.law_sp (fun a ha => ?_) hS ⟨ns, rfl, Dn.sok_of hbits, rfl⟩
      rw [show a = P_0 from ha]; exact hT (c_0, P_0) (by simp)
    · intro base h1 h2 hT
      exact hF base h1 h2 (Dn.tab_of (hT (c_0, P_0) (by simp)))
