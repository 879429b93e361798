import PyProof.Rows.All
import Wide.All
import OpenK.AllK
import Wide.FinOn
import HandS.ForMost
import HandS.Exc
import HandS.CallSlots
import HandS.Wide
import HandS.Style
import HandS.More
import HandS.Defaults
import HandS.WordsExc
import HandS.Property
import PyProof.ReprRoads
import HandS.TupAny
import HandS.RaiseMore
import HandS.IsInst
import HandS.Codes
import HandS.Conv
import KE.SortData
import KE.KDictSum
import KE.KDictCopyH
import KE.GoesMore
import HandS.Iter
import HandS.Words
import HandS.Head0
import HandS.Head1
import HandS.Head2
import HandS.HeadEnd
import HandS.HeadHook1
import HandS.HeadHook2
import HandS.EndBits
import OpenK.KMeth
import HandS.SlotsOwn
import KE.KRevSl
import HandS.ExcInit
import HandS.ExcField
import HandS.ExcIs
import HandS.SetFor
import HandS.TupSets
import HandS.Strs
import KE.DataFind
import HandS.MakeKwOnly
import HandS.FStr
import HandS.Text
import KE.KCallOwn
import HandS.ClsMeth
import HandS.CallLocal
import HandS.HeadNt
import HandS.Small
import HandS.Flow
import HandS.TupMul
import HandS.Zip
import KE.DataMinMax
import HandS.SortKw
import KE.KOpsOwn
import HandS.SetBool
import HandS.OwnEq
import KE.KTupSum
import HandS.TryMany
import PySem.Challenge.RW_contentties_k23_webs_added
set_option Elab.async false
set_option linter.all false
set_option maxRecDepth 100000
set_option maxHeartbeats 4000000
/-! DL1: plain data, a store of changing cells, how they lie in the abstract heap; expressions. -/
namespace CT
open PySem L2
/-! ### the domain -/
inductive D where
  | non | bl (b : Bool) | int (i : Int) | str (s : Str)
  | lst (xs : List D) | tup (xs : List D) | scr (xs : List D) | kt (xs : List D)
  | obj (c : Nat) (fs : List D)
  | dT (ks : List (List Key)) (vs : List D)
  | cell (i : Nat)
  | exn (c : Nat) (fs : List D)
  | cls (c : Nat)
inductive Cell where
  | lst (xs : List D)
  | dT (ks : List (List Key)) (vs : List D)
  | ins (c : Nat) (fs : List D)
abbrev Store := List (Option Cell)
structure Exc where
  c : Nat
  fs : List D
inductive R (α : Type) where
  | ok (a : α) (C : Store)
  | exc (e : Exc) (C : Store)
  | stuck
/-- a def's frame: the cells below fl are its callers'; the slots -/
structure Fr where
  fl : Nat
  sl : List (Option D)
abbrev ME := Fr → Store → R D
def ofO : Option (D × Store) → R D
  | some (d, C) => .ok d C
  | none => .stuck
def bnd {α β : Type} (m : R α) (f : α → Store → R β) : R β := match m with
  | .ok a C => f a C
  | .exc e C => .exc e C
  | .stuck => .stuck
@[simp] theorem bnd_ok {α β : Type} (a : α) (C : Store) (f : α → Store → R β) : bnd (.ok a C) f = f a C := rfl
@[simp] theorem bnd_exc {α β : Type} (e : Exc) (C : Store) (f : α → Store → R β) : bnd (.exc e C) f = .exc e C := rfl
@[simp] theorem bnd_stuck {α β : Type} (f : α → Store → R β) : bnd .stuck f = .stuck := rfl
mutual
def cb (n : Nat) : D → Bool
  | .lst xs => cbL n xs
  | .tup xs => cbL n xs
  | .scr xs => cbL n xs
  | .kt xs => cbL n xs
  | .obj _ fs => cbL n fs
  | .exn _ fs => cbL n fs
  | .cls _ => true
  | .dT _ vs => cbL n vs
  | .cell i => decide (i < n)
  | .non => true | .bl _ => true | .int _ => true | .str _ => true
def cbL (n : Nat) : List D → Bool
  | [] => true
  | d :: ds => cb n d && cbL n ds
end
/-! ### how data lie in the heap -/
structure Cn where
  K : PySem.W.Frag
  cl : Nat → Addr
  fn : Nat → List Str
  /-- the error that is held: its place, its class, its dict -/
  ex : Option (Addr × Nat × Addr) := none
def Live (A : Nat → Addr) (C : Store) (a : Addr) : Prop := ∃ i c, C[i]? = some (some c) ∧ A i = a
/-- the written part's list -/
def KL (K : PySem.W.Frag) (a : Addr) (xs : List V) : Prop := ∃ (o : Obj) (its : Array Value) (n : Nat), List.lookup a K = some o ∧ o.cls = Value.type "list" ∧ o.dict = none ∧ o.data = Data.seq its n ∧ its.size ≤ sizeLine ∧ Vals xs its.toList
/-- the written part's tuple -/
def KT (K : PySem.W.Frag) (a : Addr) (xs : List V) : Prop := ∃ o its n, List.lookup a K = some o ∧ o.cls = Value.type "tuple" ∧ o.data = Data.seq its n ∧ its.size ≤ sizeLine ∧ Vals xs its.toList
mutual
inductive Rep (k : Cn) (A : Nat → Addr) (C : Store) (H : Hp) : V → D → Prop where
  | non : Rep k A C H .non .non
  | bl (b : Bool) : Rep k A C H (.bl b) (.bl b)
  | int (i : Int) : Rep k A C H (.int i) (.int i)
  | str (s : Str) : Rep k A C H (.str s) (.str s)
  | lst {a : Addr} {vs : List V} {ds : List D} : ¬ Live A C a → H a = some (.lst vs) → RepL k A C H vs ds → Rep k A C H (.ref a) (.lst ds)
  | tup {a : Addr} {vs : List V} {ds : List D} : ¬ Live A C a → H a = some (.tup vs) → RepL k A C H vs ds → Rep k A C H (.ref a) (.tup ds)
  | ktup {a : Addr} {vs : List V} {ds : List D} : KT k.K a vs → RepL k A C H vs ds → Rep k A C H (.ref a) (.kt ds)
  | scr {a : Addr} {vs : List V} {ds : List D} {o : Obj} : ¬ Live A C a → H a = some (.frz o (.lst vs)) → RepL k A C H vs ds → Rep k A C H (.ref a) (.scr ds)
  | kscr {a : Addr} {vs : List V} {ds : List D} : KL k.K a vs → RepL k A C H vs ds → Rep k A C H (.ref a) (.scr ds)
  | obj {a dx : Addr} {c : Nat} {vs : List V} {ds : List D} : ¬ Live A C a → H a = some (.ins (k.cl c) dx ((k.fn c).zip vs)) → vs.length = (k.fn c).length → RepL k A C H vs ds → Rep k A C H (.ref a) (.obj c ds)
  | dT {a : Addr} {kvs : List (List Key × V)} {ds : List D} : ¬ Live A C a → H a = some (.dT kvs) → RepL k A C H (kvs.map (·.2)) ds → Rep k A C H (.ref a) (.dT (kvs.map (·.1)) ds)
  | cell {i : Nat} : i < C.length → Rep k A C H (.ref (A i)) (.cell i)
  | cls (c : Nat) : Rep k A C H (.ref (k.cl c)) (.cls c)
  | exn {a dd : Addr} {c : Nat} {vs : List V} {ds : List D} : k.ex = some (a, c, dd) → ¬ Live A C dd → H dd = some (.xd ((k.fn c).zip vs)) → vs.length = (k.fn c).length → RepL k A C H vs ds → Rep k A C H (.ref a) (.exn c ds)
inductive RepL (k : Cn) (A : Nat → Addr) (C : Store) (H : Hp) : List V → List D → Prop where
  | nil : RepL k A C H [] []
  | cons {v : V} {d : D} {vs : List V} {ds : List D} : Rep k A C H v d → RepL k A C H vs ds → RepL k A C H (v :: vs) (d :: ds)
end
section
variable {k : Cn} {A A' : Nat → Addr} {C C' : Store} {H H' : Hp} {v : V} {d : D} {vs : List V} {ds : List D}
theorem RepL.length : ∀ {vs : List V} {ds : List D}, RepL k A C H vs ds → vs.length = ds.length
  | _, _, .nil => rfl
  | _, _, .cons _ t => by simp [RepL.length t]
theorem RepL.take : ∀ {vs : List V} {ds : List D} (n : Nat), RepL k A C H vs ds → RepL k A C H (vs.take n) (ds.take n)
  | _, _, 0, _ => by simp; exact .nil
  | _, _, _ + 1, .nil => .nil
  | _, _, n + 1, .cons r t => .cons r (RepL.take n t)
theorem RepL.drop : ∀ {vs : List V} {ds : List D} (n : Nat), RepL k A C H vs ds → RepL k A C H (vs.drop n) (ds.drop n)
  | _, _, 0, r => r
  | _, _, _ + 1, .nil => .nil
  | _, _, n + 1, .cons _ t => RepL.drop n t
theorem RepL.set {v : V} {d : D} (r : Rep k A C H v d) : ∀ {vs : List V} {ds : List D} (i : Nat), RepL k A C H vs ds → RepL k A C H (vs.set i v) (ds.set i d)
  | _, _, _, .nil => .nil
  | _, _, 0, .cons _ t => .cons r t
  | _, _, i + 1, .cons q t => .cons q (RepL.set r i t)
/-- every reading stays if the not-live objects stay and the live ones are the old ones, or new -/
structure Kp (A : Nat → Addr) (C : Store) (H : Hp) (A' : Nat → Addr) (C' : Store) (H' : Hp) : Prop where
  at_ : ∀ a o, ¬ Live A C a → H a = some o → ¬ Live A' C' a ∧ H' a = some o
  ix : ∀ i, i < C.length → A' i = A i
  len : C.length ≤ C'.length
mutual
theorem Rep.kp (q : Kp A C H A' C' H') : ∀ {v : V} {d : D}, Rep k A C H v d → Rep k A' C' H' v d
  | _, _, .non => .non
  | _, _, .bl b => .bl b
  | _, _, .int i => .int i
  | _, _, .str s => .str s
  | _, _, .lst l h r => .lst (q.at_ _ _ l h).1 (q.at_ _ _ l h).2 (r.kp q)
  | _, _, .tup l h r => .tup (q.at_ _ _ l h).1 (q.at_ _ _ l h).2 (r.kp q)
  | _, _, .ktup h r => .ktup h (r.kp q)
  | _, _, .scr l h r => .scr (q.at_ _ _ l h).1 (q.at_ _ _ l h).2 (r.kp q)
  | _, _, .kscr h r => .kscr h (r.kp q)
  | _, _, .obj l h z r => .obj (q.at_ _ _ l h).1 (q.at_ _ _ l h).2 z (r.kp q)
  | _, _, .dT l h r => .dT (q.at_ _ _ l h).1 (q.at_ _ _ l h).2 (r.kp q)
  | _, _, .cell (i := i) hi => by
    rw [← q.ix i hi]
    exact .cell (Nat.lt_of_lt_of_le hi q.len)
  | _, _, .exn x l h z r => .exn x (q.at_ _ _ l h).1 (q.at_ _ _ l h).2 z (r.kp q)
  | _, _, .cls c => .cls c
theorem RepL.kp (q : Kp A C H A' C' H') : ∀ {vs : List V} {ds : List D}, RepL k A C H vs ds → RepL k A' C' H' vs ds
  | _, _, .nil => .nil
  | _, _, .cons r t => .cons (r.kp q) (t.kp q)
end
mutual
theorem Rep.cb : ∀ {v : V} {d : D}, Rep k A C H v d → cb C.length d = true
  | _, _, .non => rfl
  | _, _, .bl b => rfl
  | _, _, .int i => rfl
  | _, _, .str s => rfl
  | _, _, .lst l h r => by simpa [CT.cb] using r.cb
  | _, _, .tup l h r => by simpa [CT.cb] using r.cb
  | _, _, .ktup h r => by simpa [CT.cb] using r.cb
  | _, _, .scr l h r => by simpa [CT.cb] using r.cb
  | _, _, .kscr h r => by simpa [CT.cb] using r.cb
  | _, _, .obj l h z r => by simpa [CT.cb] using r.cb
  | _, _, .dT l h r => by simpa [CT.cb] using r.cb
  | _, _, .cell (i := i) hi => by simpa [CT.cb] using hi
  | _, _, .exn x l h z r => by simpa [CT.cb] using r.cb
  | _, _, .cls c => rfl
theorem RepL.cb : ∀ {vs : List V} {ds : List D}, RepL k A C H vs ds → cbL C.length ds = true
  | _, _, .nil => rfl
  | _, _, .cons r t => by simp [CT.cbL, r.cb, t.cb]
end
/-- fewer live cells, all that is named still there -/
structure Fw (A : Nat → Addr) (C C' : Store) : Prop where
  lv : ∀ a, Live A C' a → Live A C a
mutual
theorem Rep.fw (q : Fw A C C') : ∀ {v : V} {d : D}, Rep k A C H v d → CT.cb C'.length d = true → Rep k A C' H v d
  | _, _, .non, _ => .non
  | _, _, .bl b, _ => .bl b
  | _, _, .int i, _ => .int i
  | _, _, .str s, _ => .str s
  | _, _, .lst l h r, z => .lst (fun y => l (q.lv _ y)) h (r.fw q (by simpa [CT.cb] using z))
  | _, _, .tup l h r, z => .tup (fun y => l (q.lv _ y)) h (r.fw q (by simpa [CT.cb] using z))
  | _, _, .ktup h r, z => .ktup h (r.fw q (by simpa [CT.cb] using z))
  | _, _, .scr l h r, z => .scr (fun y => l (q.lv _ y)) h (r.fw q (by simpa [CT.cb] using z))
  | _, _, .kscr h r, z => .kscr h (r.fw q (by simpa [CT.cb] using z))
  | _, _, .obj l h e r, z => .obj (fun y => l (q.lv _ y)) h e (r.fw q (by simpa [CT.cb] using z))
  | _, _, .dT l h r, z => .dT (fun y => l (q.lv _ y)) h (r.fw q (by simpa [CT.cb] using z))
  | _, _, .cell (i := i) hi, z => .cell (by simpa [CT.cb] using z)
  | _, _, .exn x l h e r, z => .exn x (fun y => l (q.lv _ y)) h e (r.fw q (by simpa [CT.cb] using z))
  | _, _, .cls c, _ => .cls c
theorem RepL.fw (q : Fw A C C') : ∀ {vs : List V} {ds : List D}, RepL k A C H vs ds → CT.cbL C'.length ds = true → RepL k A C' H vs ds
  | _, _, .nil, _ => .nil
  | _, _, .cons r t, z => by
    simp [CT.cbL] at z
    exact .cons (r.fw q z.1) (t.fw q z.2)
end
end
/-! ### the store -/
def CellAt (k : Cn) (A : Nat → Addr) (C : Store) (H : Hp) (a : Addr) : Cell → Prop
  | .lst ds => ∃ vs, H a = some (.lst vs) ∧ RepL k A C H vs ds
  | .dT ks ds => ∃ kvs : List (List Key × V), H a = some (.dT kvs) ∧ kvs.map (·.1) = ks ∧ RepL k A C H (kvs.map (·.2)) ds
  | .ins c ds => ∃ dx vs, H a = some (.ins (k.cl c) dx (((k.fn c).take ds.length).zip vs)) ∧ ds.length ≤ (k.fn c).length ∧ RepL k A C H vs ds
structure StOk (k : Cn) (A : Nat → Addr) (C : Store) (H : Hp) : Prop where
  at_ : ∀ i c, C[i]? = some (some c) → CellAt k A C H (A i) c
  inj : ∀ i j c e, C[i]? = some (some c) → C[j]? = some (some e) → A i = A j → i = j
def cbC (n : Nat) : Cell → Bool
  | .lst ds => cbL n ds
  | .dT _ ds => cbL n ds
  | .ins _ ds => cbL n ds
def LowC (f : Nat) (C : Store) : Prop := ∀ i c, i < f → C[i]? = some (some c) → cbC f c = true
section
variable {k : Cn} {fl : Nat} {A A' A'' : Nat → Addr} {C C' C'' : Store} {H H' H'' : Hp} {v : V} {d : D} {vs : List V} {ds : List D}
theorem CellAt.kp {c : Cell} {a : Addr} (q : Kp A C H A' C' H') (h : H' a = H a) (x : CellAt k A C H a c) : CellAt k A' C' H' a c := by
  cases c with
  | lst ds => obtain ⟨vs, e, r⟩ := x; exact ⟨vs, by rw [h]; exact e, r.kp q⟩
  | dT ks ds => obtain ⟨kvs, e, z, r⟩ := x; exact ⟨kvs, by rw [h]; exact e, z, r.kp q⟩
  | ins c ds => obtain ⟨dx, vs, e, z, r⟩ := x; exact ⟨dx, vs, by rw [h]; exact e, z, r.kp q⟩
theorem CellAt.there {c : Cell} {a : Addr} (x : CellAt k A C H a c) : ∃ o, H a = some o := by
  cases c with
  | lst ds => obtain ⟨vs, e, r⟩ := x; exact ⟨_, e⟩
  | dT ks ds => obtain ⟨kvs, e, z, r⟩ := x; exact ⟨_, e⟩
  | ins c ds => obtain ⟨dx, vs, e, z, r⟩ := x; exact ⟨_, e⟩
/-- a new object, not live -/
theorem kp_new {p : Addr} {o : HO} (h : H p = none) : Kp A C H A C (upd H p o) :=
  ⟨fun a u l e => ⟨l, by rw [upd_ne (ne_of_none e h)]; exact e⟩, fun _ _ => rfl, Nat.le_refl _⟩
theorem StOk.new {p : Addr} {o : HO} (x : StOk k A C H) (h : H p = none) : StOk k A C (upd H p o) :=
  ⟨fun i c e => by
    have y := x.at_ i c e
    obtain ⟨u, hu⟩ := y.there
    exact y.kp (kp_new h) (upd_ne (ne_of_none hu h)), x.inj⟩
/-- a new object that becomes a cell -/
def ext (A : Nat → Addr) (n : Nat) (p : Addr) : Nat → Addr := fun j => if j = n then p else A j
theorem live_ext {p : Addr} {c : Cell} {a : Addr} (l : Live (ext A C.length p) (C ++ [some c]) a) : Live A C a ∨ a = p := by
  obtain ⟨i, c', e, rfl⟩ := l
  by_cases hi : i < C.length
  · rw [List.getElem?_append_left hi] at e
    refine .inl ⟨i, c', e, ?_⟩
    unfold ext
    rw [if_neg (Nat.ne_of_lt hi)]
  · have hl : i < (C ++ [some c]).length := (List.getElem?_eq_some_iff.mp e).1
    rw [List.length_append] at hl
    have : i = C.length := by simp at hl; omega
    subst this
    refine .inr ?_
    unfold ext
    rw [if_pos rfl]
theorem kp_cell {p : Addr} {o : HO} {c : Cell} (x : StOk k A C H) (h : H p = none) : Kp A C H (ext A C.length p) (C ++ [some c]) (upd H p o) :=
  ⟨fun a u l e => ⟨fun y => (live_ext y).elim l (fun z => by rw [z, h] at e; cases e), by rw [upd_ne (ne_of_none e h)]; exact e⟩, fun i hi => by unfold ext; rw [if_neg (Nat.ne_of_lt hi)], by simp⟩
theorem StOk.cell {p : Addr} {o : HO} {c : Cell} (x : StOk k A C H) (h : H p = none) (y : CellAt k (ext A C.length p) (C ++ [some c]) (upd H p o) p c) : StOk k (ext A C.length p) (C ++ [some c]) (upd H p o) := by
  have old : ∀ i c', (C ++ [some c])[i]? = some (some c') → i < C.length → C[i]? = some (some c') ∧ ext A C.length p i = A i := fun i c' e hi => by
    rw [List.getElem?_append_left hi] at e
    exact ⟨e, by unfold ext; rw [if_neg (Nat.ne_of_lt hi)]⟩
  have new : ∀ i c', (C ++ [some c])[i]? = some (some c') → ¬ i < C.length → i = C.length ∧ c' = c := fun i c' e hi => by
    have hl : i < (C ++ [some c]).length := (List.getElem?_eq_some_iff.mp e).1
    rw [List.length_append] at hl
    have : i = C.length := by simp at hl; omega
    subst this
    simp at e
    exact ⟨rfl, e.symm⟩
  have pos : ext A C.length p C.length = p := by unfold ext; rw [if_pos rfl]
  refine ⟨fun i c' e => ?_, fun i j c1 c2 e1 e2 z => ?_⟩
  · by_cases hi : i < C.length
    · obtain ⟨e', ea⟩ := old i c' e hi
      rw [ea]
      have w := x.at_ i c' e'
      obtain ⟨u, hu⟩ := w.there
      exact w.kp (kp_cell x h) (upd_ne (ne_of_none hu h))
    · obtain ⟨rfl, rfl⟩ := new i c' e hi
      rw [pos]
      exact y
  · have far : ∀ i c', C[i]? = some (some c') → A i ≠ p := fun i c' e z => by
      obtain ⟨u, hu⟩ := (x.at_ i c' e).there
      rw [z, h] at hu
      cases hu
    by_cases hi : i < C.length
    · obtain ⟨f1, a1⟩ := old i c1 e1 hi
      by_cases hj : j < C.length
      · obtain ⟨f2, a2⟩ := old j c2 e2 hj
        rw [a1, a2] at z
        exact x.inj i j _ _ f1 f2 z
      · obtain ⟨rfl, rfl⟩ := new j c2 e2 hj
        rw [a1, pos] at z
        exact absurd z (far i _ f1)
    · obtain ⟨rfl, rfl⟩ := new i c1 e1 hi
      by_cases hj : j < C.length
      · obtain ⟨f2, a2⟩ := old j c2 e2 hj
        rw [pos, a2] at z
        exact absurd z.symm (far j _ f2)
      · obtain ⟨rfl, _⟩ := new j c2 e2 hj
        rfl
/-- the store's end is forgotten -/
theorem fw_take (n : Nat) : Fw A C (C.take n) := ⟨fun a ⟨i, c, e, z⟩ => by
  by_cases hi : i < n
  · rw [List.getElem?_take_of_lt hi] at e
    exact ⟨i, c, e, z⟩
  · rw [List.getElem?_eq_none (by simp; omega)] at e
    cases e⟩
theorem CellAt.fw {c : Cell} {a : Addr} (q : Fw A C C') (x : CellAt k A C H a c) (z : cbC C'.length c = true) : CellAt k A C' H a c := by
  cases c with
  | lst ds => obtain ⟨vs, e, r⟩ := x; exact ⟨vs, e, r.fw q z⟩
  | dT ks ds => obtain ⟨kvs, e, y, r⟩ := x; exact ⟨kvs, e, y, r.fw q z⟩
  | ins c ds => obtain ⟨dx, vs, e, y, r⟩ := x; exact ⟨dx, vs, e, y, r.fw q z⟩
theorem CellAt.cb {c : Cell} {a : Addr} (x : CellAt k A C H a c) : cbC C.length c = true := by
  cases c with
  | lst ds => obtain ⟨vs, e, r⟩ := x; exact r.cb
  | dT ks ds => obtain ⟨kvs, e, y, r⟩ := x; exact r.cb
  | ins c ds => obtain ⟨dx, vs, e, y, r⟩ := x; exact r.cb
/-- at a call every cell is below the floor -/
theorem StOk.low (x : StOk k A C H) : LowC C.length C := fun i c _ e => (x.at_ i c e).cb
theorem StOk.take {n : Nat} (x : StOk k A C H) (hn : n ≤ C.length) (h : LowC n C) : StOk k A (C.take n) H := by
  have get : ∀ i c, (C.take n)[i]? = some (some c) → i < n ∧ C[i]? = some (some c) := fun i c e => by
    by_cases hi : i < n
    · rw [List.getElem?_take_of_lt hi] at e
      exact ⟨hi, e⟩
    · rw [List.getElem?_eq_none (by simp; omega)] at e
      cases e
  have ln : (C.take n).length = n := by rw [List.length_take]; omega
  refine ⟨fun i c e => ?_, fun i j c e h1 h2 z => x.inj i j c e (get i c h1).2 (get j e h2).2 z⟩
  obtain ⟨hi, e'⟩ := get i c e
  exact (x.at_ i c e').fw (fw_take n) (by rw [ln]; exact h i c hi e')
end
/-! ### frames -/
structure SR (k : Cn) (A : Nat → Addr) (F : Fr) (C : Store) (σ : L2.St) (H : Hp) : Prop where
  st : StOk k A C H
  low : LowC F.fl C
  fl : F.fl ≤ C.length
  len : F.sl.length = σ.length
  sl : ∀ (i : Nat) (d : D), F.sl[i]? = some (some d) → ∃ v : V, σ[i]? = some (some v) ∧ Rep k A C H v d
section
variable {k : Cn} {A A' A1 : Nat → Addr} {F : Fr} {C C' C1 : Store} {H H' H1 : Hp} {σ : L2.St} {fl : Nat}
theorem SR.set {i : Nat} {v : V} {d : D} (s : SR k A F C σ H) (r : Rep k A C H v d) : SR k A ⟨F.fl, F.sl.set i (some d)⟩ C (σ.set i (some v)) H :=
  ⟨s.st, s.low, s.fl, by simp [s.len], fun j e h => by
    have h' : (F.sl.set i (some d))[j]? = some (some e) := h
    by_cases hij : i = j
    · subst hij
      by_cases hl : i < F.sl.length
      · rw [List.getElem?_set_self hl] at h'
        refine ⟨v, List.getElem?_set_self (by rw [← s.len]; exact hl), ?_⟩
        rw [← Option.some.inj (Option.some.inj h')]
        exact r
      · rw [List.getElem?_eq_none (by simp; omega)] at h'
        cases h'
    · rw [List.getElem?_set_ne hij] at h'
      obtain ⟨u, h1, h2⟩ := s.sl j e h'
      exact ⟨u, by rw [List.getElem?_set_ne hij]; exact h1, h2⟩⟩
variable {α β γ δ : Type} {rel : (Nat → Addr) → Store → Hp → β → α → Prop} {rel2 : (Nat → Addr) → Store → Hp → δ → γ → Prop} {m : R α} {Q : α → Store → (Nat → Addr) → Hp → β → Prop} {W : XK}
end
abbrev MA := Fr → Store → R (List D)
abbrev MT := Fr → Store → R Bool
end CT
set_option maxHeartbeats 4000000
/-! DL2: expressions over data: names, constants, operators, displays, subscripts, calls of built-ins. -/
namespace CT
open PySem L2
/-! ### names, constants -/
def mVar (i : Nat) : ME := fun F C => match F.sl[i]? with
  | some (some d) => .ok d C
  | _ => .stuck
def mC (d : D) : ME := fun _ C => .ok d C
/-! ### operators -/
abbrev O2 := D → D → Store → Option (D × Store)
abbrev O1 := D → Store → Option (D × Store)
abbrev OA := List D → Store → Option (D × Store)
def mOp (o : O2) (a b : ME) : ME := fun F C => bnd (a F C) fun x C1 => bnd (b F C1) fun y C2 => ofO (o x y C2)
def mUn (o : O1) (a : ME) : ME := fun F C => bnd (a F C) fun x C1 => ofO (o x C1)
def mNil : MA := fun _ C => .ok [] C
def mCons (a : ME) (r : MA) : MA := fun F C => bnd (a F C) fun x C1 => bnd (r F C1) fun xs C2 => .ok (x :: xs) C2
def mAp (o : OA) (a : MA) : ME := fun F C => bnd (a F C) fun xs C1 => ofO (o xs C1)
/-! ### tests, and, or, not -/
def mTst (a : ME) : MT := fun F C => bnd (a F C) fun x C1 => match x with
  | .bl b => .ok b C1
  | _ => .stuck
def tAndM (a b : MT) : MT := fun F C => bnd (a F C) fun x C1 => if x = true then b F C1 else .ok false C1
def tOrM (a b : MT) : MT := fun F C => bnd (a F C) fun x C1 => if x = true then .ok true C1 else b F C1
def tNotM (a : MT) : MT := fun F C => bnd (a F C) fun x C1 => .ok (!x) C1
def mAnd (a b : ME) : ME := fun F C => bnd (a F C) fun x C1 => match x with
  | .bl true => b F C1
  | .bl false => .ok (.bl false) C1
  | _ => .stuck
def mOr (a b : ME) : ME := fun F C => bnd (a F C) fun x C1 => match x with
  | .bl true => .ok (.bl true) C1
  | .bl false => b F C1
  | _ => .stuck
def mNot (a : ME) : ME := fun F C => bnd (a F C) fun x C1 => match x with
  | .bl b => .ok (.bl (!b)) C1
  | _ => .stuck
def mIf (t : MT) (a b : ME) : ME := fun F C => bnd (t F C) fun x C1 => if x = true then a F C1 else b F C1
/-! ### numbers -/
def oI (c : Int → Int → Bool) (g : Int → Int → D) : O2 := fun x y C => match x, y with
  | .int i, .int j => if c i j = true then some (g i j, C) else none
  | _, _ => none
def oI0 (g : Int → Int → D) : O2 := fun x y C => match x, y with
  | .int i, .int j => some (g i j, C)
  | _, _ => none
def oAdd : O2 := oI0 fun i j => .int (i + j)
def oSub : O2 := oI0 fun i j => .int (i - j)
def cMul (i j : Int) : Bool := (decide (-(2 ^ 64) < i) && decide (i < 2 ^ 64)) || (decide (-(2 ^ 64) < j) && decide (j < 2 ^ 64))
def oMul : O2 := oI cMul fun i j => .int (i * j)
def oLt : O2 := oI0 fun i j => .bl (decide (i < j))
def oLe : O2 := oI0 fun i j => .bl (decide (i ≤ j))
def oGt : O2 := oI0 fun i j => .bl (decide (j < i))
def oGe : O2 := oI0 fun i j => .bl (decide (j ≤ i))
def oNeg : O1 := fun x C => match x with
  | .int i => some (.int (-i), C)
  | _ => none
/-! ### a chain of two comparisons -/
def mChain (o o' : O2) (a b c : ME) : ME := fun F C => bnd (a F C) fun x C1 => bnd (b F C1) fun y C2 => bnd (ofO (o x y C2)) fun z C3 => match z with
  | .bl true => bnd (c F C3) fun w C4 => ofO (o' y w C4)
  | .bl false => .ok (.bl false) C3
  | _ => .stuck
end CT
set_option maxHeartbeats 4000000
/-! DL3: lists, tuples, dicts over data. -/
namespace CT
open PySem L2
/-! ### what a datum is as a list, a tuple, a dict -/
def vL (d : D) (C : Store) : Option (List D) := match d with
  | .lst xs => some xs
  | .cell i => match C[i]? with
    | some (some (.lst xs)) => some xs
    | _ => none
  | _ => none
def vT : D → Option (List D)
  | .tup xs => some xs
  | .kt xs => some xs
  | _ => none
def vD (d : D) (C : Store) : Option (List (List Key) × List D) := match d with
  | .dT ks vs => some (ks, vs)
  | .cell i => match C[i]? with
    | some (some (.dT ks vs)) => some (ks, vs)
    | _ => none
  | _ => none
section
variable {k : Cn} {A : Nat → Addr} {C : Store} {H : Hp} {v : V} {d : D} {ds : List D}
/-! ### new lists, tuples, dicts: own cells or plain data -/
def mkL (own : Bool) (ds : List D) (C : Store) : D × Store := if own = true then (.cell C.length, C ++ [some (.lst ds)]) else (.lst ds, C)
def mkD (own : Bool) (ks : List (List Key)) (ds : List D) (C : Store) : D × Store := if own = true then (.cell C.length, C ++ [some (.dT ks ds)]) else (.dT ks ds, C)
end
/-! ### displays -/
def szN (n : Nat) : Bool := decide (n ≤ 16777216)
def oLst (own : Bool) : OA := fun xs C => if szN xs.length = true then some (mkL own xs C) else none
def oTup : OA := fun xs C => if szN xs.length = true then some (.tup xs, C) else none
section
variable {X : Cx} {k : Cn} {W : WX} {es : List Expr} {ma : MA} {pos : Pos}
/-- {} whose keys will be tuples -/
def mDNew (own : Bool) : ME := fun _ C => .ok (mkD own [] [] C).1 (mkD own [] [] C).2
end
/-! ### subscripts -/
/-! ### dicts with tuple keys -/
def keyL : List D → Option (List Key)
  | [] => some []
  | .int i :: r => (keyL r).map fun l => .inl i :: l
  | .str s :: r => (keyL r).map fun l => .inr s :: l
  | _ :: _ => none
def lookT : List (List Key) → List D → List Key → Option D
  | k :: ks, d :: ds, key => if k = key then some d else lookT ks ds key
  | _, _, _ => none
def setT : List (List Key) → List D → List Key → D → List D
  | k :: ks, d :: ds, key, x => (if k = key then x else d) :: setT ks ds key x
  | _, _, _, _ => []
def putT (ks : List (List Key)) (ds : List D) (key : List Key) (x : D) : List (List Key) × List D := if (ks.any fun k => decide (k = key)) = true then (ks, setT ks ds key x) else (ks ++ [key], ds ++ [x])
def oDGet (x y z : D) (C : Store) : Option (D × Store) := match y with
  | .tup ds => (vD x C).bind fun p => (keyL ds).map fun key => ((lookT p.1 p.2 key).getD z, C)
  | _ => none
def mDGet (a b c : ME) : ME := fun F C => bnd (a F C) fun x C1 => if (vD x C1).isSome = true then bnd (b F C1) fun y C2 => bnd (c F C2) fun z C3 => ofO (oDGet x y z C3) else .stuck
end CT
set_option maxHeartbeats 4000000
/-! DL4: statements, defs over data. -/
namespace CT
open PySem L2
inductive RS where
  | nx (sl : List (Option D)) (C : Store)
  | rt (d : D) (C : Store)
  | bk (sl : List (Option D)) (C : Store)
  | ct (sl : List (Option D)) (C : Store)
  | xc (e : Exc) (sl : List (Option D)) (C : Store)
  | stuck
abbrev MS := Fr → Store → RS
/-! ### simple statements -/
def bndS {α : Type} (sl : List (Option D)) (m : R α) (f : α → Store → RS) : RS := match m with
  | .ok a C => f a C
  | .exc e C => .xc e sl C
  | .stuck => .stuck
@[simp] theorem bndS_ok {α : Type} (sl : List (Option D)) (a : α) (C : Store) (f : α → Store → RS) : bndS sl (.ok a C) f = f a C := rfl
@[simp] theorem bndS_exc {α : Type} (sl : List (Option D)) (e : Exc) (C : Store) (f : α → Store → RS) : bndS sl (.exc e C) f = .xc e sl C := rfl
@[simp] theorem bndS_stuck {α : Type} (sl : List (Option D)) (f : α → Store → RS) : bndS (α := α) sl .stuck f = .stuck := rfl
def sNext : MS := fun F C => .nx F.sl C
def sSeq (a b : MS) : MS := fun F C => match a F C with
  | .nx sl C1 => b ⟨F.fl, sl⟩ C1
  | r => r
def sBrk : MS := fun F C => .bk F.sl C
def sCnt : MS := fun F C => .ct F.sl C
def sDrop (m : ME) : MS := fun F C => bndS F.sl (m F C) fun _ C1 => .nx F.sl C1
def sRet (m : ME) : MS := fun F C => bndS F.sl (m F C) fun d C1 => .rt d C1
def sRetN : MS := fun F C => .rt .non C
def sIf (t : MT) (a b : MS) : MS := fun F C => bndS F.sl (t F C) fun x C1 => if x = true then a F C1 else b F C1
/-! ### targets -/
abbrev MG := D → List (Option D) → Option (List (Option D))
def gN (i : Nat) : MG := fun d sl => some (sl.set i (some d))
def setAll : List Nat → List D → List (Option D) → Option (List (Option D))
  | [], [], sl => some sl
  | i :: is, d :: ds, sl => setAll is ds (sl.set i (some d))
  | _, _, _ => none
def gT (is : List Nat) : MG := fun d sl => (vT d).bind fun ds => setAll is ds sl
end CT
set_option maxHeartbeats 4000000
/-! DL5: stores, loops over data. -/
namespace CT
open PySem L2
section
variable {X : Cx} {k : Cn} {W : WX} {E : Ends} {σ : L2.St} {H : Hp}
/-! ### assignments -/
def sAsg (m : ME) (g : MG) : MS := fun F C => bndS F.sl (m F C) fun d C1 => match g d F.sl with
  | some sl => .nx sl C1
  | none => .stuck
/-- a, b = x, y of plain local names -/
def sPar (is : List Nat) (m : MA) : MS := fun F C => bndS F.sl (m F C) fun ds C1 => match setAll is ds F.sl with
  | some sl => .nx sl C1
  | none => .stuck
end
/-! ### cells written -/
/-- the cell is written with c: below the floor c names no cells -/
def wr (fl : Nat) (i : Nat) (c : Cell) (C : Store) : Option Store := if i < fl ∧ cbC 0 c = false then none else some (C.set i (some c))
/-- the list cell's place and items -/
def cL (d : D) (C : Store) : Option (Nat × List D) := match d with
  | .cell i => match C[i]? with
    | some (some (.lst xs)) => some (i, xs)
    | _ => none
  | _ => none
def cD (d : D) (C : Store) : Option (Nat × List (List Key) × List D) := match d with
  | .cell i => match C[i]? with
    | some (some (.dT ks vs)) => some (i, ks, vs)
    | _ => none
  | _ => none
/-- xs[i] = e -/
def sSetL (me mo mi : ME) : MS := fun F C => bndS F.sl (me F C) fun v C1 => bndS F.sl (mo F C1) fun o C2 => bndS F.sl (mi F C2) fun x C3 => match x, cL o C3 with
  | .int n, some (i, ds) => match ixN ds.length n with
    | some j => match wr F.fl i (.lst (ds.set j v)) C3 with
      | some C4 => .nx F.sl C4
      | none => .stuck
    | none => .stuck
  | _, _ => .stuck
/-- d[k] = e -/
def sPut (me mo mi : ME) : MS := fun F C => bndS F.sl (me F C) fun v C1 => bndS F.sl (mo F C1) fun o C2 => bndS F.sl (mi F C2) fun x C3 => match x, cD o C3 with
  | .tup ds, some (i, ks, vs) => match keyL ds with
    | some key => if szN (ks.length + 1) = true then match wr F.fl i (.dT (putT ks vs key v).1 (putT ks vs key v).2) C3 with
      | some C4 => .nx F.sl C4
      | none => .stuck
      else .stuck
    | none => .stuck
  | _, _ => .stuck
/-! ### list methods that write -/
end CT
set_option maxHeartbeats 4000000
/-! DL6: targets, loops, comprehensions over data. -/
namespace CT
open PySem L2
/-! ### targets of names -/
inductive Tgt where
  | nm (i : Nat) | tp (is : List Nat)
def Tgt.M : Tgt → MG
  | .nm i => gN i
  | .tp is => gT is
def wipeD (sl : List (Option D)) : List Nat → List (Option D)
  | [] => sl
  | v :: vs => (wipeD sl vs).set v none
/-! ### what is walked -/
structure ItD where
  n : Nat
  item : Nat → Store → Option D
  fin : Store → Bool
abbrev MI := Fr → Store → R ItD
/-! ### for -/
def loopN (it : ItD) (g : MG) (body : MS) (fl : Nat) : Nat → Nat → List (Option D) → Store → RS
  | 0, _, sl, C => if it.fin C = true then .nx sl C else .stuck
  | r + 1, j, sl, C => match it.item j C with
    | none => .stuck
    | some d => match g d sl with
      | none => .stuck
      | some sl1 => match body ⟨fl, sl1⟩ C with
        | .nx sl2 C2 => loopN it g body fl r (j + 1) sl2 C2
        | .ct sl2 C2 => loopN it g body fl r (j + 1) sl2 C2
        | .bk sl2 C2 => .nx sl2 C2
        | .rt d C2 => .rt d C2
        | .xc e sl2 C2 => .xc e sl2 C2
        | .stuck => .stuck
def sFor (mi : MI) (g : MG) (body : MS) : MS := fun F C => bndS F.sl (mi F C) fun it C1 => loopN it g body F.fl it.n 0 F.sl C1
/-! ### list comprehensions -/
def bn0 {α β : Type} (m : R α) (f : α → Store → R β) : R β := match m with
  | .ok a C => f a C
  | _ => .stuck
@[simp] theorem bn0_ok {α β : Type} (a : α) (C : Store) (f : α → Store → R β) : bn0 (.ok a C) f = f a C := rfl
def lcN (it : ItD) (g : MG) (tt : MT) (te : ME) (n : Nat) (sl : List (Option D)) : Nat → Nat → Store → R Unit
  | 0, _, C => if it.fin C = true then .ok () C else .stuck
  | r + 1, j, C => match it.item j C with
    | none => .stuck
    | some d => match g d sl with
      | none => .stuck
      | some sl1 => bn0 (tt ⟨n, sl1⟩ C) fun b C1 => if b = true then bn0 (te ⟨n, sl1⟩ C1) fun y C2 => match C2[n]? with
          | some (some (.lst acc)) => if szN (acc.length + 1) = true then lcN it g tt te n sl r (j + 1) (C2.set n (some (.lst (acc ++ [y])))) else .stuck
          | _ => .stuck
        else lcN it g tt te n sl r (j + 1) C1
/-- behind the loop: an own list; or plain data, the cell forgotten -/
def lcEnd (own : Bool) (n : Nat) (C : Store) : R D := if own = true then .ok (.cell n) C else match C[n]? with
  | some (some (.lst acc)) => if cbL n acc = true then .ok (.lst acc) (C.take n) else .stuck
  | _ => .stuck
def mLc (own : Bool) (mi : MI) (g : MG) (tt : MT) (te : ME) (vs : List Nat) : ME := fun F C => bnd (mi F C) fun it C1 => bn0 (lcN it g tt te C1.length (wipeD F.sl vs) it.n 0 (C1 ++ [some (.lst [])])) fun _ C2 => lcEnd own C1.length C2
end CT
set_option maxHeartbeats 4000000
/-! DL7: what is walked; defs. -/
namespace CT
open PySem L2
section
variable {X : Cx} {k : Cn} {W : WX} {E : Ends} {σ : L2.St} {H : Hp}
/-! ### lists and tuples -/
def itC (xs : List D) : ItD := ⟨xs.length, fun j _ => xs[j]?, fun _ => true⟩
def itV (i n : Nat) : ItD := ⟨n, fun j C => match C[i]? with
    | some (some (.lst ys)) => if ys.length = n then ys[j]? else none
    | _ => none, fun C => match C[i]? with
    | some (some (.lst ys)) => decide (ys.length = n)
    | _ => false⟩
def itS (d : D) (C : Store) : Option ItD := match d with
  | .tup xs => some (itC xs)
  | .kt xs => some (itC xs)
  | .lst xs => some (itC xs)
  | .cell i => match C[i]? with
    | some (some (.lst ys)) => some (itV i ys.length)
    | _ => none
  | _ => none
def mSeq (m : ME) : MI := fun F C => bnd (m F C) fun d C1 => match itS d C1 with
  | some it => .ok it C1
  | none => .stuck
/-! ### ranges -/
def inR (i : Int) : Bool := decide (-(2 ^ 62) ≤ i) && decide (i < 2 ^ 62)
def itR (lo : Int) (n : Nat) : ItD := ⟨n, fun j _ => some (.int (lo + j)), fun _ => true⟩
def mRng1 (a : ME) : MI := fun F C => bnd (a F C) fun d C1 => match d with
  | .int j => if inR j = true then .ok (itR 0 j.toNat) C1 else .stuck
  | _ => .stuck
def mRng2 (a b : ME) : MI := fun F C => bnd (a F C) fun d C1 => bnd (b F C1) fun e C2 => match d, e with
  | .int i, .int j => if (inR i && inR j) = true then .ok (itR i (j - i).toNat) C2 else .stuck
  | _, _ => .stuck
end
/-! ### defs -/
abbrev MF := List D → Store → R D
/-- what a def hands back: an own list or dict that it made becomes plain data; its cells are forgotten -/
def fz (n : Nat) (d : D) (C : Store) : D := match d with
  | .cell i => if i < n then d else match C[i]? with
    | some (some (.lst xs)) => .lst xs
    | some (some (.dT ks vs)) => .dT ks vs
    | _ => d
  | _ => d
def fin (n : Nat) (d : D) (C : Store) : R D := if cb n (fz n d C) = true then .ok (fz n d C) (C.take n) else .stuck
end CT
set_option maxHeartbeats 4000000
/-! DL8: defs, calls, instances over data. -/
namespace CT
open PySem L2 PySem.Spec PyProof.Rows
/-! ### defs that know that no repr runs around them -/
structure RoomG (lev : Nat) (A : Around) : Prop where
  room : Room lev A
  gd : A.guards = some []
/-! ### calls -/
def mCall (m : MF) (dds : List D) (a : MA) : ME := fun F C => bnd (a F C) fun ds C1 => m (ds ++ dds) C1
section
variable {X : Cx} {k : Cn} {W : WX} {σ : L2.St} {H : Hp} {Q : VK} {lev : Nat} {f C p g : Addr} {fd : FuncData} {ps : List Str} {np : Nat} {m : MF} {dvs : List V} {dds : List D} {ds : List Value} {x nm : Str} {pn pos apos : Pos} {e o : Expr} {es : List Expr} {ma : MA} {mo : ME}
/-! ### instances -/
/-- the class and the attributes of an instance -/
def vO (d : D) (C : Store) : Option (Nat × List D) := match d with
  | .obj c fs => some (c, fs)
  | .cell i => match C[i]? with
    | some (some (.ins c fs)) => some (c, fs)
    | _ => none
  | _ => none
/-- o.f, the n-th attribute of the class c -/
def oFld (c n : Nat) : O1 := fun x C => match vO x C with
  | some (c', fs) => if c' = c then (fs[n]?).map fun d => (d, C) else none
  | none => none
/-! ### methods, properties -/
/-- the receiver is an instance of c -/
def mMeth (c : Nat) (m : MF) (dds : List D) (mo : ME) (a : MA) : ME := fun F C => bnd (mo F C) fun x C1 => match vO x C1 with
  | some (c', _) => if c' = c then bnd (a F C1) fun ds C2 => m (x :: (ds ++ dds)) C2 else .stuck
  | none => .stuck
end
end CT
set_option maxHeartbeats 4000000
/-! DL9: built-in functions over data. -/
namespace CT
open PySem L2 PySem.Spec PyProof.Rows
/-! ### data as the library's own -/
mutual
def toP0 : D → Option PyData
  | .non => some .none
  | .bl b => some (.bool b)
  | .int i => some (.int i)
  | .str s => some (.str s)
  | .lst xs => (toP0s xs).map .list
  | .tup xs => (toP0s xs).map .tuple
  | .kt xs => (toP0s xs).map .tuple
  | .scr _ => none | .obj _ _ => none | .dT _ _ => none | .cell _ => none | .exn _ _ => none | .cls _ => none
def toP0s : List D → Option (List PyData)
  | [] => some []
  | d :: ds => match toP0 d, toP0s ds with
    | some p, some ps => some (p :: ps)
    | _, _ => none
end
mutual
/-- cells are looked into, one deep -/
def toP (C : Store) : D → Option PyData
  | .non => some .none
  | .bl b => some (.bool b)
  | .int i => some (.int i)
  | .str s => some (.str s)
  | .lst xs => (toPs C xs).map .list
  | .tup xs => (toPs C xs).map .tuple
  | .kt xs => (toPs C xs).map .tuple
  | .cell i => match C[i]? with
    | some (some (.lst xs)) => (toP0s xs).map .list
    | _ => none
  | .scr _ => none | .obj _ _ => none | .dT _ _ => none | .exn _ _ => none | .cls _ => none
def toPs (C : Store) : List D → Option (List PyData)
  | [] => some []
  | d :: ds => match toP C d, toPs C ds with
    | some p, some ps => some (p :: ps)
    | _, _ => none
end
/-! ### == and != of data -/
def oEqD (neg : Bool) : O2 := fun x y C => match toP C x, toP C y with
  | some p, some q => if (SeqAt.shaped p && SeqAt.shaped q) = true then some (.bl (if neg = true then !PyData.eqv p q else PyData.eqv p q), C) else none
  | _, _ => none
/-! ### repr -/
def repOk (p : PyData) : Bool := p.showable && !p.hasDict && decide (p.depth ≤ 60) && szN p.shown.length
/-! ### len, sums, least, greatest, conversions -/
def dInts : List D → Option (List Int)
  | [] => some []
  | .int i :: r => (dInts r).map fun l => i :: l
  | _ :: _ => none
@[simp] theorem dInts_map (ns : List Int) : dInts (ns.map D.int) = some ns := by
  induction ns with
  | nil => rfl
  | cons n r ih => simp [dInts, ih]
def dBools : List D → Option (List Bool)
  | [] => some []
  | .bl i :: r => (dBools r).map fun l => i :: l
  | _ :: _ => none
@[simp] theorem dBools_map (ns : List Bool) : dBools (ns.map D.bl) = some ns := by
  induction ns with
  | nil => rfl
  | cons n r ih => simp [dBools, ih]
def o2I (g : Int → Int → Int) : OA := fun xs C => match xs with
  | [.int i, .int j] => some (.int (g i j), C)
  | _ => none
def oMax2 : OA := o2I fun i j => if j > i then j else i
def oMin2 : OA := o2I fun i j => if j < i then j else i
def oAbs : OA := fun xs C => match xs with
  | [.int i] => some (.int (if i < 0 then -i else i), C)
  | _ => none
def oInt : OA := fun xs C => match xs with
  | [.int i] => some (.int i, C)
  | [.bl b] => some (.int (if b then 1 else 0), C)
  | _ => none
/-- tuple(list), tuple(tuple) -/
def oTupOf : OA := fun xs C => match xs with
  | [.tup ys] => some (.tup ys, C)
  | [.kt ys] => some (.kt ys, C)
  | [d] => (vL d C).map fun ys => (.tup ys, C)
  | _ => none
/-! ### + and * of lists, + of tuples -/
/-! ### slices of lists -/
def mNoPart : Fr → Store → R (Option Int) := fun _ C => .ok none C
def mPart (m : ME) : Fr → Store → R (Option Int) := fun F C => bnd (m F C) fun d C1 => match d with
  | .int i => .ok (some i) C1
  | _ => .stuck
def cutD (xs : List D) (lo hi : Option Int) : List D := (xs.drop (HT.sIx xs.length 0 lo)).take (HT.sIx xs.length xs.length hi - HT.sIx xs.length 0 lo)
def vLs (d : D) (C : Store) : Option (List D) := match d with
  | .scr xs => some xs
  | _ => vL d C
/-- xs[lo:hi] of a list, a new list -/
def mSlL (own : Bool) (a : ME) (l h : Fr → Store → R (Option Int)) : ME := fun F C => bnd (a F C) fun x C1 => bnd (l F C1) fun lo C2 => bnd (h F C2) fun hi C3 => match vLs x C3 with
  | some xs => ofO (some (mkL own (cutD xs lo hi) C3))
  | none => .stuck
end CT
set_option maxHeartbeats 4000000
/-! DLA: instances made, attributes stored, properties, isinstance. -/
namespace CT
open PySem L2 PySem.Spec PyProof.Rows
/-! ### C(..) -/
end CT
set_option maxHeartbeats 4000000
/-! DLB: properties, isinstance, comprehensions as statements, two clauses. -/
namespace CT
open PySem L2 PySem.Spec PyProof.Rows
/-! ### o.f, a property -/
def mProp (c : Nat) (m : MF) (mo : ME) : ME := fun F C => bnd (mo F C) fun x C1 => match vO x C1 with
  | some (c', _) => if c' = c then (match m [x] C1 with
    | .ok d C2 => .ok d C2
    | _ => .stuck) else .stuck
  | none => .stuck
/-! ### isinstance -/
inductive Bt where
  | int | bool | str | list | tuple | dict | none
  deriving DecidableEq
def Bt.name : Bt → String
  | .int => "int" | .bool => "bool" | .str => "str" | .list => "list" | .tuple => "tuple" | .dict => "dict" | .none => "NoneType"
inductive Cc where
  | ty (b : Bt) | own (c : Nat)
def isaT : Bt → Bt → Bool
  | .bool, .int => true
  | a, b => decide (a = b)
def tyD (d : D) (C : Store) : Option Cc := match d with
  | .non => some (.ty .none) | .bl _ => some (.ty .bool) | .int _ => some (.ty .int) | .str _ => some (.ty .str)
  | .lst _ => some (.ty .list) | .tup _ => some (.ty .tuple) | .kt _ => some (.ty .tuple) | .dT _ _ => some (.ty .dict)
  | .obj c _ => some (.own c)
  | .scr _ => none
  | .exn _ _ => none
  | .cls _ => none
  | .cell i => match C[i]? with
    | some (some (.lst _)) => some (.ty .list)
    | some (some (.dT _ _)) => some (.ty .dict)
    | some (some (.ins c _)) => some (.own c)
    | _ => none
def isi (kn : List Nat) (d : D) (C : Store) (t : Cc) : Option Bool := match tyD d C with
  | some (.ty a) => (match t with
    | .ty b => some (isaT a b)
    | .own _ => some false)
  | some (.own c) => if c ∈ kn then (match t with
    | .ty _ => some false
    | .own c' => some (decide (c = c'))) else none
  | none => none
def mIsi (kn : List Nat) (t : Cc) (m : ME) : ME := fun F C => bnd (m F C) fun d C1 => match isi kn d C1 t with
  | some b => .ok (.bl b) C1
  | none => .stuck
def mIsi2 (kn : List Nat) (t u : Cc) (m : ME) : ME := fun F C => bnd (m F C) fun d C1 => match isi kn d C1 t, isi kn d C1 u with
  | some b, some b' => .ok (.bl (b || b')) C1
  | _, _ => .stuck
def Cc.val (k : Cn) : Cc → Value
  | .ty b => .type b.name
  | .own c => .ref (k.cl c)
def Cc.v (k : Cn) : Cc → V
  | .ty b => .ty b.name
  | .own c => .ref (k.cl c)
theorem Cc.cls {k : Cn} (t : Cc) : ClsV (t.v k) (t.val k) := by
  cases t with
  | ty b => exact .ty _
  | own c => exact .own _
end CT
set_option maxHeartbeats 4000000
/-! DLC: isinstance as an expression; comprehensions that are assigned, and of two clauses; xs[i] += e; membership; list(range(..)). -/
namespace CT
open PySem L2 PySem.Spec PyProof.Rows
section
variable {X : Cx} {k : Cn} {W : WX} {σ : L2.St} {H : Hp} {Q : VK} {E : Ends}
/-! ### tests of a clause -/
def tYesM : MT := fun _ C => .ok true C
/-! ### y = [..] -/
/-! ### two clauses -/
/-! ### xs[i] += e -/
def sAugL (o : Int → Int → Int) (mo mi me : ME) : MS := fun F C => bndS F.sl (mo F C) fun l C1 => bndS F.sl (mi F C1) fun x C2 => match x, cL l C2 with
  | .int n, some (_, ds) => if 0 ≤ n then (match ds[n.toNat]? with
    | some (.int a) => bndS F.sl (me F C2) fun v C3 => (match v, cL l C3 with
      | .int b, some (i, es) => (match ixN es.length n with
        | some j => (match wr F.fl i (.lst (es.set j (.int (o a b)))) C3 with
          | some C4 => .nx F.sl C4
          | none => .stuck)
        | none => .stuck)
      | _, _ => .stuck)
    | _ => .stuck) else .stuck
  | _, _ => .stuck
/-! ### x in a tuple or list of data -/
end
end CT
set_option maxHeartbeats 4000000
/-! DLD: list(range(..)), sorted(..), dict(..). -/
namespace CT
open PySem L2 PySem.Spec PyProof.Rows
/-! ### sorted -/
end CT
set_option maxHeartbeats 4000000
/-! DLE: sorted and dict(d) over data. -/
namespace CT
open PySem L2 PySem.Spec PyProof.Rows
/-! ### dict(d), keys that are tuples -/
end CT
set_option maxHeartbeats 4000000
/-! DLF: dict(d) over data; enumerate. -/
namespace CT
open PySem L2 PySem.Spec PyProof.Rows
/-! ### a list of unlike numbers -/
inductive BT where
  | lf | nd (l : BT) (x : Nat) (r : BT)
def BT.ins (x : Nat) : BT → Option BT
  | .lf => some (.nd .lf x .lf)
  | .nd l y r => bif Nat.blt x y then (match l.ins x with
      | some l' => some (.nd l' y r)
      | none => none) else bif Nat.blt y x then (match r.ins x with
      | some r' => some (.nd l y r')
      | none => none) else none
/-! ### enumerate(tuple) -/
def prI (it : ItD) : ItD := ⟨it.n, fun j C => (it.item j C).map fun x => .tup [.int (j : Nat), x], it.fin⟩
def mEnum (m : ME) : MI := fun F C => bnd (m F C) fun d C1 => match itS d C1 with
  | some it => .ok (prI it) C1
  | none => .stuck
end CT
set_option maxHeartbeats 4000000
/-! DLG: what the head tells (defs by addresses, checks), the law's end for data. -/
namespace CT
open PySem L2 PySem.Spec PyProof.Rows
/-! ### defs, by where they stand -/
structure DefX where
  adr : PySem.W.Frag → Addr
  name : Str
  qual : Str
  params : Arguments
  body : List Stmt
  scope : Scope
  dfl : PySem.W.Frag → List V := fun _ => []
def fnX (K : PySem.W.Frag) (a : Addr) : He.FnW := match K.lookup a with
  | some ⟨_, _, .func fd, _⟩ => some (fd.name, fd.qualname, fd.params, fd.body, fd.scope, fd.globals, fd.closure, fd.builtins)
  | _ => none
def DefX.val (d : DefX) : He.FnW := some (d.name, d.qual, d.params, .stmts d.body, d.scope, mainGlobals, [], builtinsNs)
def DefX.ok (K : PySem.W.Frag) (d : DefX) : Bool := PySem.W.keepIn K (.ref (d.adr K)) && (match K.lookup (d.adr K) with
  | some ⟨_, _, .func fd, _⟩ => PySem.W.codeIn K fd.code d.qual && He.dflB K fd.defaults (d.dfl K)
  | _ => false)
/-! ### the head's look -/
abbrev AlX : Type := Bool × List He.FnW
def obX (fs : List (PySem.W.Frag → Bool)) (fn : List DefX) (K : PySem.W.Frag) : AlX := ((fs.all fun f => f K) && fn.all fun d => d.ok K, fn.map fun d => fnX K (d.adr K))
def vlX (fn : List DefX) : AlX := (true, fn.map DefX.val)
def SaysX (fs : List (PySem.W.Frag → Bool)) (fn : List DefX) (K : PySem.W.Frag) : Prop := obX fs fn K = vlX fn
def obG (n : Nat) (fs : List (PySem.W.Frag → Bool)) (fn : List DefX) (g : Addr → Option Obj) : AlX := obX fs fn (He.frG g (He.asD g n))
def hookX (n : Nat) (fs : List (PySem.W.Frag → Bool)) (fn : List DefX) : PySem.W.Hook where
  α := AlX
  obs := fun s => obG n fs fn s.heap.get?
  val := fun _ => vlX fn
  says := fun _ h => ∃ K : PySem.W.Frag, K.In h ∧ SaysX fs fn K
  of := fun _ _ e => ⟨_, He.frG_in, e⟩
  keeps := fun _ _ _ ⟨K, hK, c⟩ k => ⟨K, PySem.W.Frag.In.keeps hK k, c⟩
/-! ### checks -/
section
variable {K : PySem.W.Frag}
/-- a property's object, its getter -/
def prA (K : PySem.W.Frag) (C : Addr) (f : Str) : Addr := He.ma K C f
def prG (K : PySem.W.Frag) (C : Addr) (f : Str) : Addr := match PySem.W.recIn K (prA K C f) "property" with
  | some (.ref g :: _) => g
  | _ => 0
def prB (x f : Str) (K : PySem.W.Frag) : Bool := He.eqO (PySem.W.findIn K (.ref (He.ga K x)) f) (some (some (.ref (prA K (He.ga K x) f)))) && (He.eqO (PySem.W.specialIn K (.ref (prA K (He.ga K x) f)) "__get__") (some (some (.builtin "property.__get__"))) &&
  (decide (PySem.W.takesIn K (.ref (prA K (He.ga K x) f)) = some true) && (match PySem.W.recIn K (prA K (He.ga K x) f) "property" with
    | some (.ref _ :: _) => true
    | _ => false)))
def allBt : List Bt := [.int, .bool, .str, .list, .tuple, .dict, .none]
def insB (C : Addr) (K : PySem.W.Frag) : Bool := PySem.W.plainGet K C Str.empty && (PySem.W.hasDictIn K C && (PySem.W.plainOver K C && (He.eqO (PySem.W.findIn K (.ref C) "__setattr__") (some (some (.builtin "object.__setattr__"))) &&
  (He.eqO (PySem.W.findIn K (.ref C) "__class__") (some (some (.builtin "object.__class__"))) && (He.eqO (PySem.W.specialIn K (.builtin "object.__class__") "__get__") (some (some (.builtin "getset_descriptor.__get__"))) &&
  (decide (PySem.W.takesIn K (.builtin "object.__class__") = some true) && (decide (PySem.W.mroIn K C (.type "object") = some true) && decide (PySem.W.kitOne K (.ref C) (.ref C) = some true))))))))
def isaB (cl : PySem.W.Frag → Nat → Addr) (kn : List Nat) (K : PySem.W.Frag) : Bool := (kn.all fun c => insB (cl K c) K) && ((kn.all fun c => kn.all fun c' => decide (PySem.W.kitOne K (.ref (cl K c)) (.ref (cl K c')) = some (decide (c = c')))) &&
  (kn.all fun c => allBt.all fun b => decide (PySem.W.kitOne K (.ref (cl K c)) (.type b.name) = some false) && decide (PySem.W.kitOne K (.type b.name) (.ref (cl K c)) = some false)))
/-- an empty tuple of the written part -/
def ktB (a : PySem.W.Frag → Addr) (K : PySem.W.Frag) : Bool := match K.lookup (a K) with
  | some ⟨.type c, _, .seq its _, _⟩ => decide (c = "tuple") && decide (its.size = 0)
  | _ => false
end
/-! ### the end -/
end CT
set_option maxHeartbeats 4000000
/-! DLH: a def that hands back a list of its own, to be changed by its caller. -/
namespace CT
open PySem L2 PySem.Spec PyProof.Rows
end CT
set_option maxHeartbeats 4000000
/-! DLI: comparisons as tests. -/
namespace CT
open PySem L2 PySem.Spec PyProof.Rows
/-! ### == and !=, scalars or data -/
def oEqA (neg : Bool) : O2 := fun x y C => match x, y with
  | .int a, .int b => some (.bl (if neg = true then !decide (a = b) else decide (a = b)), C)
  | .str a, .str b => some (.bl (if neg = true then !decide (a = b) else decide (a = b)), C)
  | x, y => oEqD neg x y C
end CT
set_option maxHeartbeats 4000000
/-! DLJ: operators that a class defines: ==, !=, +, in, []. -/
namespace CT
open PySem L2 PySem.Spec PyProof.Rows
end CT
set_option maxHeartbeats 4000000
/-! DLK: != by an own __eq__; x[i] by an own __getitem__. -/
namespace CT
open PySem L2 PySem.Spec PyProof.Rows
end CT
set_option maxHeartbeats 4000000
/-! DLL: own operators over data. -/
namespace CT
open PySem L2 PySem.Spec PyProof.Rows
/-! ### the terms -/
/-! ### readings -/
end CT
set_option maxHeartbeats 4000000
/-! DLM: what the head says of own operators. -/
namespace CT
open PySem L2 PySem.Spec PyProof.Rows
section
variable {K : PySem.W.Frag}
def dnB (x f : Str) (K : PySem.W.Frag) : Bool := He.eqO (PySem.W.findIn K (.ref (He.ga K x)) f) (some (some (.ref (He.ma K (He.ga K x) f)))) && (PySem.W.isFn K (.ref (He.ma K (He.ga K x) f)) && PySem.W.fnIn K (He.ma K (He.ga K x) f))
def sfB (x : Str) (K : PySem.W.Frag) : Bool := PySem.W.selfFirst K (He.ga K x)
end
end CT
set_option maxHeartbeats 4000000
/-! DLN: t[::-1], xs[::-1], t[lo:hi]. -/
namespace CT
open PySem L2 PySem.Spec PyProof.Rows HT
def mRevT (m : ME) : ME := fun F C => bnd (m F C) fun x C1 => match vT x with
  | some xs => .ok (.tup xs.reverse) C1
  | none => .stuck
/-- t[lo:hi], the whole tuple too -/
def mSlA (a : ME) (l h : Fr → Store → R (Option Int)) : ME := fun F C => bnd (a F C) fun x C1 => bnd (l F C1) fun lo C2 => bnd (h F C2) fun hi C3 => match vT x with
  | some xs => if HT.sIx xs.length 0 lo = 0 ∧ HT.sIx xs.length xs.length hi = xs.length then .ok x C3 else .ok (.tup (cutD xs lo hi)) C3
  | none => .stuck
end CT
set_option maxHeartbeats 4000000
/-! DLO: errors of the program's own: made and raised. -/
namespace CT
open PySem L2 PySem.Spec PyProof.Rows
/-! ### what the head says of an error class -/
def oexB (x : Str) (K : PySem.W.Frag) : Bool := (match K.lookup (He.ga K x) with
    | some ⟨.type t, _, .cls cd, sl⟩ => decide (t = "type") && (cd.hasDict && (!cd.hasDel && (match cd.mro, sl.toList with
      | .ref C' :: bm, [_, _, _, _, some (.builtin n), _] => decide (C' = He.ga K x) && (decide (n = "ValueError.__new__") && PySem.HandSPX.refsVE bm)
      | _, _ => false)))
    | _ => false) && (He.eqO (PySem.W.findIn K (.ref (He.ga K x)) "__setattr__") (some (some (.builtin "object.__setattr__"))) && (decide (PySem.W.subIn K (.ref (He.ga K x)) (.type "BaseException") = some true) &&
      (decide (PySem.W.typeIn K (.ref (He.ga K x)) = some (.type "type")) && PySem.W.keepIn K (.ref (He.ga K x)))))
def xiB (x : Str) (K : PySem.W.Frag) : Bool := oexB x K && (He.eqO (PySem.W.findIn K (.ref (He.ga K x)) "__init__") (some (some (.ref (He.ma K (He.ga K x) "__init__")))) && decide (PySem.W.typeIn K (.ref (He.ma K (He.ga K x) "__init__")) = some (.type "function")))
/-! ### __init__: one field, two fields -/
/-! ### raise C(e, ..) -/
def sRaise (c n : Nat) (ma : MA) : MS := fun F C => bndS F.sl (ma F C) fun ds C1 => if ds.length = n then .xc ⟨c, ds.reverse⟩ F.sl C1 else .stuck
end CT
set_option maxHeartbeats 4000000
/-! DLP: try: .. except C as n: .. return; the error is held as data. -/
namespace CT
open PySem L2 PySem.Spec PyProof.Rows
mutual
/-- no held error within -/
def nx : D → Bool
  | .lst xs => nxL xs
  | .tup xs => nxL xs
  | .scr xs => nxL xs
  | .kt xs => nxL xs
  | .obj _ fs => nxL fs
  | .dT _ vs => nxL vs
  | .exn _ _ => false
  | .cls _ => true
  | .cell _ => true | .non => true | .bl _ => true | .int _ => true | .str _ => true
def nxL : List D → Bool
  | [] => true
  | d :: ds => nx d && nxL ds
end
section
variable {k : Cn} {A A' : Nat → Addr} {C C' : Store} {H H' : Hp} {a dd : Addr} {c : Nat} {fl : Nat}
mutual
theorem Rep.nx (hk : k.ex = none) : ∀ {v : V} {d : D}, Rep k A C H v d → CT.nx d = true
  | _, _, .non => rfl
  | _, _, .bl b => rfl
  | _, _, .int i => rfl
  | _, _, .str s => rfl
  | _, _, .lst l h r => by simpa [CT.nx] using r.nx hk
  | _, _, .tup l h r => by simpa [CT.nx] using r.nx hk
  | _, _, .ktup h r => by simpa [CT.nx] using r.nx hk
  | _, _, .scr l h r => by simpa [CT.nx] using r.nx hk
  | _, _, .kscr h r => by simpa [CT.nx] using r.nx hk
  | _, _, .obj l h z r => by simpa [CT.nx] using r.nx hk
  | _, _, .dT l h r => by simpa [CT.nx] using r.nx hk
  | _, _, .cell hi => rfl
  | _, _, .cls c => rfl
  | _, _, .exn x l h z r => by rw [hk] at x; cases x
theorem RepL.nx (hk : k.ex = none) : ∀ {vs : List V} {ds : List D}, RepL k A C H vs ds → CT.nxL ds = true
  | _, _, .nil => rfl
  | _, _, .cons r t => by simp [CT.nxL, r.nx hk, t.nx hk]
end
end
end CT
set_option maxHeartbeats 4000000
/-! DLQ: isinstance of the held error. -/
namespace CT
open PySem L2 PySem.Spec PyProof.Rows PySem.W
section
variable {X : Cx} {k : Cn} {W : WX} {σ : L2.St} {H : Hp} {Q : VK}
def excA (C : Addr) (K : Frag) : Bool := He.eqO (findIn K (.ref C) "__getattribute__") (some (some (.builtin "BaseException.__getattribute__"))) && (He.eqO (findIn K (.ref C) "__getattr__") (some none) && (decide (subIn K (.ref C) (.type "BaseException") = some true) && (hasDictIn K C &&
  (He.eqO (findIn K (.ref C) "__class__") (some (some (.builtin "object.__class__"))) && (He.eqO (specialIn K (.builtin "object.__class__") "__get__") (some (some (.builtin "getset_descriptor.__get__"))) && (decide (takesIn K (.builtin "object.__class__") = some true) && decide (mroIn K C (.type "object") = some true)))))))
def xsB (cl : Frag → Nat → Addr) (kn : List Nat) (K : Frag) : Bool := (kn.all fun c => excA (cl K c) K) && kn.all fun c => kn.all fun c' => decide (kitOne K (.ref (cl K c)) (.ref (cl K c')) = some (decide (c = c')))
/-- what an except clause says of the classes -/
def exmB (cl : Frag → Nat → Addr) (x : Str) (cs ds : List Nat) (K : Frag) : Bool := (cs.all fun c => decide (exmOne K (.ref (cl K c)) (.ref (He.ga K x)) = some true)) && ds.all fun c => decide (exmOne K (.ref (cl K c)) (.ref (He.ga K x)) = some false)
end
end CT
set_option maxHeartbeats 4000000
/-! DLR: web * k. -/
namespace CT
open PySem L2 PySem.Spec PyProof.Rows PySem.W
/-! ### over data -/
def mulB (x : Str) (K : Frag) : Bool := selfFirst K (He.ga K x) && (He.eqO (findIn K (.ref (He.ga K x)) (PySem.dunder "mul")) (some (some (.ref (He.ma K (He.ga K x) "__mul__")))) && (He.eqO (findIn K (.ref (He.ga K x)) (PySem.dunderR "mul")) (some (some (.ref (He.ma K (He.ga K x) "__rmul__")))) &&
  (isFn K (.ref (He.ma K (He.ga K x) "__mul__")) && (isFn K (.ref (He.ma K (He.ga K x) "__rmul__")) && (decide (subIn K (.type "int") (.ref (He.ga K x)) = some false) && decide (subIn K (.ref (He.ga K x)) (.type "int") = some false))))))
end CT
set_option maxHeartbeats 4000000
/-! DLS: is None; sorted(set(xs)) of ints, len(set(xs)) of tuples of ints. -/
namespace CT
open PySem L2 PySem.Spec PyProof.Rows
/-! ### is None, is not None -/
/-! ### set(xs), xs a list of ints -/
end CT
set_option maxHeartbeats 4000000
/-! E1: how the terms of the layer are worked out. -/
namespace CT
open PySem L2
/-! ### named steps; simp looks at what is done first alone -/
def getV (o : Option (Option D)) (C : Store) : R D := match o with
  | some (some d) => .ok d C
  | _ => .stuck
@[simp] theorem getV_some (d : D) (C : Store) : getV (some (some d)) C = .ok d C := rfl
def thenS (r : RS) (f : List (Option D) → Store → RS) : RS := match r with
  | .nx sl C => f sl C
  | r => r
@[simp] theorem thenS_nx (sl : List (Option D)) (C : Store) (f : List (Option D) → Store → RS) : thenS (.nx sl C) f = f sl C := rfl
@[simp] theorem thenS_rt (d : D) (C : Store) (f : List (Option D) → Store → RS) : thenS (.rt d C) f = .rt d C := rfl
@[simp] theorem thenS_bk (sl : List (Option D)) (C : Store) (f : List (Option D) → Store → RS) : thenS (.bk sl C) f = .bk sl C := rfl
@[simp] theorem thenS_ct (sl : List (Option D)) (C : Store) (f : List (Option D) → Store → RS) : thenS (.ct sl C) f = .ct sl C := rfl
def asB (d : D) (C : Store) : R Bool := match d with
  | .bl b => .ok b C
  | _ => .stuck
@[simp] theorem asB_bl (b : Bool) (C : Store) : asB (.bl b) C = .ok b C := rfl
def asgS (o : Option (List (Option D))) (C : Store) : RS := match o with
  | some sl => .nx sl C
  | none => .stuck
@[simp] theorem asgS_some (sl : List (Option D)) (C : Store) : asgS (some sl) C = .nx sl C := rfl
def finS (n : Nat) (r : RS) : R D := match r with
  | .nx _ C' => fin n .non C'
  | .rt d C' => fin n d C'
  | .xc e _ C' => if cbL n e.fs = true then .exc e (C'.take n) else .stuck
  | _ => .stuck
@[simp] theorem finS_nx (n : Nat) (sl : List (Option D)) (C : Store) : finS n (.nx sl C) = fin n .non C := rfl
@[simp] theorem finS_rt (n : Nat) (d : D) (C : Store) : finS n (.rt d C) = fin n d C := rfl
@[simp] theorem fin_int (n : Nat) (i : Int) (C : Store) : fin n (.int i) C = .ok (.int i) (C.take n) := rfl
@[simp] theorem fin_bl (n : Nat) (i : Bool) (C : Store) : fin n (.bl i) C = .ok (.bl i) (C.take n) := rfl
@[simp] theorem fin_non (n : Nat) (C : Store) : fin n .non C = .ok .non (C.take n) := rfl
@[simp] theorem fin_str (n : Nat) (i : Str) (C : Store) : fin n (.str i) C = .ok (.str i) (C.take n) := rfl
section
variable (fl : Nat) (sl : List (Option D)) (C : Store) (F : Fr)
@[simp] theorem ev_var (i : Nat) : mVar i ⟨fl, sl⟩ C = getV sl[i]? C := rfl
@[simp] theorem ev_c (d : D) : mC d F C = .ok d C := rfl
@[simp] theorem ev_nil : mNil F C = .ok [] C := rfl
@[simp] theorem ev_next : sNext F C = .nx F.sl C := rfl
@[simp] theorem ev_yes : tYesM F C = .ok true C := rfl
@[simp] theorem ev_retN : sRetN F C = .rt .non C := rfl
@[simp] theorem ev_gN (i : Nat) (d : D) : gN i d sl = some (sl.set i (some d)) := rfl
@[simp] theorem ev_ofO_some (d : D) : ofO (some (d, C)) = .ok d C := rfl
@[simp] theorem ev_ofO_none : ofO none = .stuck := rfl
@[simp] theorem ev_add (a b : Int) : oAdd (.int a) (.int b) C = some (.int (a + b), C) := rfl
@[simp] theorem ev_sub (a b : Int) : oSub (.int a) (.int b) C = some (.int (a - b), C) := rfl
@[simp] theorem ev_lt (a b : Int) : oLt (.int a) (.int b) C = some (.bl (decide (a < b)), C) := rfl
@[simp] theorem ev_le (a b : Int) : oLe (.int a) (.int b) C = some (.bl (decide (a ≤ b)), C) := rfl
@[simp] theorem ev_gt (a b : Int) : oGt (.int a) (.int b) C = some (.bl (decide (b < a)), C) := rfl
@[simp] theorem ev_ge (a b : Int) : oGe (.int a) (.int b) C = some (.bl (decide (b ≤ a)), C) := rfl
@[simp] theorem ev_neg (a : Int) : oNeg (.int a) C = some (.int (-a), C) := rfl
@[simp] theorem ev_min (a b : Int) : oMin2 [.int a, .int b] C = some (.int (min a b), C) := by
  show some (D.int (if b < a then b else a), C) = _
  congr 3
  by_cases h : b < a
  · rw [if_pos h]; omega
  · rw [if_neg h]; omega
@[simp] theorem ev_max (a b : Int) : oMax2 [.int a, .int b] C = some (.int (max a b), C) := by
  show some (D.int (if b > a then b else a), C) = _
  congr 3
  by_cases h : b > a
  · rw [if_pos h]; omega
  · rw [if_neg h]; omega
@[simp] theorem ev_int (a : Int) : oInt [.int a] C = some (.int a, C) := rfl
@[simp] theorem ev_abs (a : Int) : oAbs [.int a] C = some (.int (a.natAbs : Int), C) := by
  show some (D.int (if a < 0 then -a else a), C) = _
  congr 3
  by_cases h : a < 0
  · rw [if_pos h]; omega
  · rw [if_neg h]; omega
theorem ev_mul {a b : Int} (h : cMul a b = true) : oMul (.int a) (.int b) C = some (.int (a * b), C) := by
  show (if cMul a b = true then some (D.int (a * b), C) else none) = _
  rw [if_pos h]
@[simp] theorem ev_eq (a b : Int) : oEqA false (.int a) (.int b) C = some (.bl (decide (a = b)), C) := rfl
@[simp] theorem ev_ne (a b : Int) : oEqA true (.int a) (.int b) C = some (.bl (!decide (a = b)), C) := rfl
@[simp] theorem ev_eqS (a b : Str) : oEqA false (.str a) (.str b) C = some (.bl (decide (a = b)), C) := rfl
@[simp] theorem ev_neS (a b : Str) : oEqA true (.str a) (.str b) C = some (.bl (!decide (a = b)), C) := rfl
end
/-! ### what is done next, as constants -/
section
variable {α β : Type}
def opK2 (o : O2) (x : D) (m : R D) : R D := bnd m fun y C2 => ofO (o x y C2)
@[simp] theorem opK2_ok (o : O2) (x y : D) (C : Store) : opK2 o x (.ok y C) = ofO (o x y C) := rfl
def opK (o : O2) (b : ME) (F : Fr) (m : R D) : R D := bnd m fun x C1 => opK2 o x (b F C1)
@[simp] theorem opK_ok (o : O2) (b : ME) (F : Fr) (x : D) (C : Store) : opK o b F (.ok x C) = opK2 o x (b F C) := rfl
@[simp] theorem ev_op (o : O2) (a b : ME) (F : Fr) (C : Store) : mOp o a b F C = opK o b F (a F C) := rfl
def unK (o : O1) (m : R D) : R D := bnd m fun x C1 => ofO (o x C1)
@[simp] theorem unK_ok (o : O1) (x : D) (C : Store) : unK o (.ok x C) = ofO (o x C) := rfl
@[simp] theorem ev_un (o : O1) (a : ME) (F : Fr) (C : Store) : mUn o a F C = unK o (a F C) := rfl
def consK2 (x : D) (m : R (List D)) : R (List D) := bnd m fun xs C2 => .ok (x :: xs) C2
@[simp] theorem consK2_ok (x : D) (xs : List D) (C : Store) : consK2 x (.ok xs C) = .ok (x :: xs) C := rfl
def consK (r : MA) (F : Fr) (m : R D) : R (List D) := bnd m fun x C1 => consK2 x (r F C1)
@[simp] theorem consK_ok (r : MA) (F : Fr) (x : D) (C : Store) : consK r F (.ok x C) = consK2 x (r F C) := rfl
@[simp] theorem ev_cons (a : ME) (r : MA) (F : Fr) (C : Store) : mCons a r F C = consK r F (a F C) := rfl
def apK (o : OA) (m : R (List D)) : R D := bnd m fun xs C1 => ofO (o xs C1)
@[simp] theorem apK_ok (o : OA) (xs : List D) (C : Store) : apK o (.ok xs C) = ofO (o xs C) := rfl
@[simp] theorem ev_ap (o : OA) (a : MA) (F : Fr) (C : Store) : mAp o a F C = apK o (a F C) := rfl
def tstK (m : R D) : R Bool := bnd m asB
@[simp] theorem tstK_ok (b : Bool) (C : Store) : tstK (.ok (.bl b) C) = .ok b C := rfl
@[simp] theorem ev_tst (a : ME) (F : Fr) (C : Store) : mTst a F C = tstK (a F C) := rfl
def tandK (b : MT) (F : Fr) (m : R Bool) : R Bool := bnd m fun x C1 => if x = true then b F C1 else .ok false C1
@[simp] theorem tandK_t (b : MT) (F : Fr) (C : Store) : tandK b F (.ok true C) = b F C := rfl
@[simp] theorem tandK_f (b : MT) (F : Fr) (C : Store) : tandK b F (.ok false C) = .ok false C := rfl
@[simp] theorem ev_tand (a b : MT) (F : Fr) (C : Store) : tAndM a b F C = tandK b F (a F C) := rfl
def torK (b : MT) (F : Fr) (m : R Bool) : R Bool := bnd m fun x C1 => if x = true then .ok true C1 else b F C1
@[simp] theorem torK_t (b : MT) (F : Fr) (C : Store) : torK b F (.ok true C) = .ok true C := rfl
@[simp] theorem torK_f (b : MT) (F : Fr) (C : Store) : torK b F (.ok false C) = b F C := rfl
@[simp] theorem ev_tor (a b : MT) (F : Fr) (C : Store) : tOrM a b F C = torK b F (a F C) := rfl
def tnotK (m : R Bool) : R Bool := bnd m fun x C1 => .ok (!x) C1
@[simp] theorem tnotK_ok (x : Bool) (C : Store) : tnotK (.ok x C) = .ok (!x) C := rfl
@[simp] theorem ev_tnot (a : MT) (F : Fr) (C : Store) : tNotM a F C = tnotK (a F C) := rfl
def ifK (a b : ME) (F : Fr) (m : R Bool) : R D := bnd m fun x C1 => if x = true then a F C1 else b F C1
@[simp] theorem ifK_t (a b : ME) (F : Fr) (C : Store) : ifK a b F (.ok true C) = a F C := rfl
@[simp] theorem ifK_f (a b : ME) (F : Fr) (C : Store) : ifK a b F (.ok false C) = b F C := rfl
@[simp] theorem ev_if (t : MT) (a b : ME) (F : Fr) (C : Store) : mIf t a b F C = ifK a b F (t F C) := rfl
def andK (b : ME) (F : Fr) (m : R D) : R D := bnd m fun x C1 => match x with
  | .bl true => b F C1
  | .bl false => .ok (.bl false) C1
  | _ => .stuck
@[simp] theorem andK_t (b : ME) (F : Fr) (C : Store) : andK b F (.ok (.bl true) C) = b F C := rfl
@[simp] theorem andK_f (b : ME) (F : Fr) (C : Store) : andK b F (.ok (.bl false) C) = .ok (.bl false) C := rfl
@[simp] theorem ev_and (a b : ME) (F : Fr) (C : Store) : mAnd a b F C = andK b F (a F C) := rfl
def orK (b : ME) (F : Fr) (m : R D) : R D := bnd m fun x C1 => match x with
  | .bl true => .ok (.bl true) C1
  | .bl false => b F C1
  | _ => .stuck
@[simp] theorem orK_t (b : ME) (F : Fr) (C : Store) : orK b F (.ok (.bl true) C) = .ok (.bl true) C := rfl
@[simp] theorem orK_f (b : ME) (F : Fr) (C : Store) : orK b F (.ok (.bl false) C) = b F C := rfl
@[simp] theorem ev_or (a b : ME) (F : Fr) (C : Store) : mOr a b F C = orK b F (a F C) := rfl
def notK (m : R D) : R D := bnd m fun x C1 => match x with
  | .bl b => .ok (.bl (!b)) C1
  | _ => .stuck
@[simp] theorem notK_ok (b : Bool) (C : Store) : notK (.ok (.bl b) C) = .ok (.bl (!b)) C := rfl
@[simp] theorem ev_not (a : ME) (F : Fr) (C : Store) : mNot a F C = notK (a F C) := rfl
def chK4 (o' : O2) (y : D) (m : R D) : R D := bnd m fun w C4 => ofO (o' y w C4)
@[simp] theorem chK4_ok (o' : O2) (y w : D) (C : Store) : chK4 o' y (.ok w C) = ofO (o' y w C) := rfl
def chK3 (o' : O2) (c : ME) (F : Fr) (y : D) (m : R D) : R D := bnd m fun z C3 => match z with
  | .bl true => chK4 o' y (c F C3)
  | .bl false => .ok (.bl false) C3
  | _ => .stuck
@[simp] theorem chK3_t (o' : O2) (c : ME) (F : Fr) (y : D) (C : Store) : chK3 o' c F y (.ok (.bl true) C) = chK4 o' y (c F C) := rfl
@[simp] theorem chK3_f (o' : O2) (c : ME) (F : Fr) (y : D) (C : Store) : chK3 o' c F y (.ok (.bl false) C) = .ok (.bl false) C := rfl
def chK2 (o o' : O2) (c : ME) (F : Fr) (x : D) (m : R D) : R D := bnd m fun y C2 => chK3 o' c F y (ofO (o x y C2))
@[simp] theorem chK2_ok (o o' : O2) (c : ME) (F : Fr) (x y : D) (C : Store) : chK2 o o' c F x (.ok y C) = chK3 o' c F y (ofO (o x y C)) := rfl
def chK (o o' : O2) (b c : ME) (F : Fr) (m : R D) : R D := bnd m fun x C1 => chK2 o o' c F x (b F C1)
@[simp] theorem chK_ok (o o' : O2) (b c : ME) (F : Fr) (x : D) (C : Store) : chK o o' b c F (.ok x C) = chK2 o o' c F x (b F C) := rfl
@[simp] theorem ev_chain (o o' : O2) (a b c : ME) (F : Fr) (C : Store) : mChain o o' a b c F C = chK o o' b c F (a F C) := rfl
def seqK (b : MS) (fl : Nat) (r : RS) : RS := match r with
  | .nx sl C1 => b ⟨fl, sl⟩ C1
  | r => r
@[simp] theorem seqK_nx (b : MS) (fl : Nat) (sl : List (Option D)) (C : Store) : seqK b fl (.nx sl C) = b ⟨fl, sl⟩ C := rfl
@[simp] theorem seqK_rt (b : MS) (fl : Nat) (d : D) (C : Store) : seqK b fl (.rt d C) = .rt d C := rfl
@[simp] theorem ev_seq (a b : MS) (F : Fr) (C : Store) : sSeq a b F C = seqK b F.fl (a F C) := by
  unfold sSeq seqK
  cases a F C <;> rfl
def dropK (sl : List (Option D)) (m : R D) : RS := bndS sl m fun _ C1 => .nx sl C1
@[simp] theorem dropK_ok (sl : List (Option D)) (d : D) (C : Store) : dropK sl (.ok d C) = .nx sl C := rfl
@[simp] theorem ev_sdrop (m : ME) (F : Fr) (C : Store) : sDrop m F C = dropK F.sl (m F C) := rfl
def retK (sl : List (Option D)) (m : R D) : RS := bndS sl m fun d C1 => .rt d C1
@[simp] theorem retK_ok (sl : List (Option D)) (d : D) (C : Store) : retK sl (.ok d C) = .rt d C := rfl
@[simp] theorem ev_sret (m : ME) (F : Fr) (C : Store) : sRet m F C = retK F.sl (m F C) := rfl
def sifK (a b : MS) (F : Fr) (m : R Bool) : RS := bndS F.sl m fun x C1 => if x = true then a F C1 else b F C1
@[simp] theorem sifK_t (a b : MS) (F : Fr) (C : Store) : sifK a b F (.ok true C) = a F C := rfl
@[simp] theorem sifK_f (a b : MS) (F : Fr) (C : Store) : sifK a b F (.ok false C) = b F C := rfl
@[simp] theorem ev_sif (t : MT) (a b : MS) (F : Fr) (C : Store) : sIf t a b F C = sifK a b F (t F C) := rfl
def asgK (g : MG) (sl : List (Option D)) (m : R D) : RS := bndS sl m fun d C1 => asgS (g d sl) C1
@[simp] theorem asgK_ok (g : MG) (sl : List (Option D)) (d : D) (C : Store) : asgK g sl (.ok d C) = asgS (g d sl) C := rfl
@[simp] theorem ev_asg (m : ME) (g : MG) (F : Fr) (C : Store) : sAsg m g F C = asgK g F.sl (m F C) := rfl
def parK (is : List Nat) (sl : List (Option D)) (m : R (List D)) : RS := bndS sl m fun ds C1 => asgS (setAll is ds sl) C1
@[simp] theorem parK_ok (is : List Nat) (sl : List (Option D)) (ds : List D) (C : Store) : parK is sl (.ok ds C) = asgS (setAll is ds sl) C := rfl
@[simp] theorem ev_par (is : List Nat) (m : MA) (F : Fr) (C : Store) : sPar is m F C = parK is F.sl (m F C) := rfl
@[simp] theorem setAll_nil (sl : List (Option D)) : setAll [] [] sl = some sl := rfl
@[simp] theorem setAll_cons (i : Nat) (is : List Nat) (d : D) (ds : List D) (sl : List (Option D)) : setAll (i :: is) (d :: ds) sl = setAll is ds (sl.set i (some d)) := rfl
@[simp] theorem ev_gT (is : List Nat) (ds : List D) (sl : List (Option D)) : gT is (.tup ds) sl = setAll is ds sl := rfl
def callK (m : MF) (dds : List D) (r : R (List D)) : R D := bnd r fun ds C1 => m (ds ++ dds) C1
@[simp] theorem callK_ok (m : MF) (dds ds : List D) (C : Store) : callK m dds (.ok ds C) = m (ds ++ dds) C := rfl
@[simp] theorem ev_call (m : MF) (dds : List D) (a : MA) (F : Fr) (C : Store) : mCall m dds a F C = callK m dds (a F C) := rfl
def forK (g : MG) (body : MS) (F : Fr) (m : R ItD) : RS := bndS F.sl m fun it C1 => loopN it g body F.fl it.n 0 F.sl C1
@[simp] theorem forK_ok (g : MG) (body : MS) (F : Fr) (it : ItD) (C : Store) : forK g body F (.ok it C) = loopN it g body F.fl it.n 0 F.sl C := rfl
@[simp] theorem ev_for (mi : MI) (g : MG) (body : MS) (F : Fr) (C : Store) : sFor mi g body F C = forK g body F (mi F C) := rfl
/-! #### methods, properties, dicts -/
def mthK2 (m : MF) (dds : List D) (x : D) (r : R (List D)) : R D := bnd r fun ds C2 => m (x :: (ds ++ dds)) C2
@[simp] theorem mthK2_ok (m : MF) (dds ds : List D) (x : D) (C : Store) : mthK2 m dds x (.ok ds C) = m (x :: (ds ++ dds)) C := rfl
def mthK (c : Nat) (m : MF) (dds : List D) (a : MA) (F : Fr) (r : R D) : R D := bnd r fun x C1 => match vO x C1 with
  | some (c', _) => if c' = c then mthK2 m dds x (a F C1) else .stuck
  | none => .stuck
@[simp] theorem mthK_ok (c : Nat) (m : MF) (dds : List D) (a : MA) (F : Fr) (fs : List D) (C : Store) : mthK c m dds a F (.ok (.obj c fs) C) = mthK2 m dds (.obj c fs) (a F C) := by
  show (if c = c then mthK2 m dds (.obj c fs) (a F C) else .stuck) = _
  rw [if_pos rfl]
@[simp] theorem ev_meth (c : Nat) (m : MF) (dds : List D) (mo : ME) (a : MA) (F : Fr) (C : Store) : mMeth c m dds mo a F C = mthK c m dds a F (mo F C) := rfl
def prpK (c : Nat) (m : MF) (r : R D) : R D := bnd r fun x C1 => match vO x C1 with
  | some (c', _) => if c' = c then (match m [x] C1 with
    | .ok d C2 => .ok d C2
    | _ => .stuck) else .stuck
  | none => .stuck
@[simp] theorem ev_prop (c : Nat) (m : MF) (mo : ME) (F : Fr) (C : Store) : mProp c m mo F C = prpK c m (mo F C) := rfl
@[simp] theorem ev_fld (c n : Nat) (fs : List D) (C : Store) : oFld c n (.obj c fs) C = (fs[n]?).map fun d => (d, C) := by
  unfold oFld
  simp [vO]
def getK3 (x y : D) (m : R D) : R D := bnd m fun z C3 => ofO (oDGet x y z C3)
@[simp] theorem getK3_ok (x y z : D) (C : Store) : getK3 x y (.ok z C) = ofO (oDGet x y z C) := rfl
def getK2 (c : ME) (F : Fr) (x : D) (m : R D) : R D := bnd m fun y C2 => getK3 x y (c F C2)
@[simp] theorem getK2_ok (c : ME) (F : Fr) (x y : D) (C : Store) : getK2 c F x (.ok y C) = getK3 x y (c F C) := rfl
def getK (b c : ME) (F : Fr) (m : R D) : R D := bnd m fun x C1 => if (vD x C1).isSome = true then getK2 c F x (b F C1) else .stuck
@[simp] theorem ev_dget (a b c : ME) (F : Fr) (C : Store) : mDGet a b c F C = getK b c F (a F C) := rfl
def isiK (kn : List Nat) (t : Cc) (m : R D) : R D := bnd m fun d C1 => match isi kn d C1 t with
  | some b => .ok (.bl b) C1
  | none => .stuck
@[simp] theorem ev_isi (kn : List Nat) (t : Cc) (m : ME) (F : Fr) (C : Store) : mIsi kn t m F C = isiK kn t (m F C) := rfl
@[simp] theorem isiK_ok (kn : List Nat) (t : Cc) (d : D) (C : Store) : isiK kn t (.ok d C) = ofO ((isi kn d C t).map fun b => (.bl b, C)) := by
  show (match isi kn d C t with
    | some b => R.ok (D.bl b) C
    | none => R.stuck) = _
  cases isi kn d C t <;> rfl
/-! #### lists written -/
def stK4 (F : Fr) (v o : D) (x : D) (C3 : Store) : RS := match x, cL o C3 with
  | .int n, some (i, ds) => match ixN ds.length n with
    | some j => match wr F.fl i (.lst (ds.set j v)) C3 with
      | some C4 => .nx F.sl C4
      | none => .stuck
    | none => .stuck
  | _, _ => .stuck
def stK3 (F : Fr) (v o : D) (m : R D) : RS := bndS F.sl m fun x C3 => stK4 F v o x C3
@[simp] theorem stK3_ok (F : Fr) (v o x : D) (C : Store) : stK3 F v o (.ok x C) = stK4 F v o x C := rfl
def stK2 (mi : ME) (F : Fr) (v : D) (m : R D) : RS := bndS F.sl m fun o C2 => stK3 F v o (mi F C2)
@[simp] theorem stK2_ok (mi : ME) (F : Fr) (v o : D) (C : Store) : stK2 mi F v (.ok o C) = stK3 F v o (mi F C) := rfl
def stK (mo mi : ME) (F : Fr) (m : R D) : RS := bndS F.sl m fun v C1 => stK2 mi F v (mo F C1)
@[simp] theorem stK_ok (mo mi : ME) (F : Fr) (v : D) (C : Store) : stK mo mi F (.ok v C) = stK2 mi F v (mo F C) := rfl
@[simp] theorem ev_setL (me mo mi : ME) (F : Fr) (C : Store) : sSetL me mo mi F C = stK mo mi F (me F C) := rfl
def auK4 (o : Int → Int → Int) (F : Fr) (l : D) (n a : Int) (v : D) (C3 : Store) : RS := match v, cL l C3 with
  | .int b, some (i, es) => (match ixN es.length n with
    | some j => (match wr F.fl i (.lst (es.set j (.int (o a b)))) C3 with
      | some C4 => .nx F.sl C4
      | none => .stuck)
    | none => .stuck)
  | _, _ => .stuck
def auK3 (o : Int → Int → Int) (F : Fr) (l : D) (n a : Int) (m : R D) : RS := bndS F.sl m fun v C3 => auK4 o F l n a v C3
@[simp] theorem auK3_ok (o : Int → Int → Int) (F : Fr) (l : D) (n a : Int) (v : D) (C : Store) : auK3 o F l n a (.ok v C) = auK4 o F l n a v C := rfl
def auK2 (o : Int → Int → Int) (me : ME) (F : Fr) (l : D) (x : D) (C2 : Store) : RS := match x, cL l C2 with
  | .int n, some (_, ds) => if 0 ≤ n then (match ds[n.toNat]? with
    | some (.int a) => auK3 o F l n a (me F C2)
    | _ => .stuck) else .stuck
  | _, _ => .stuck
def auK1 (o : Int → Int → Int) (me : ME) (F : Fr) (l : D) (m : R D) : RS := bndS F.sl m fun x C2 => auK2 o me F l x C2
@[simp] theorem auK1_ok (o : Int → Int → Int) (me : ME) (F : Fr) (l x : D) (C : Store) : auK1 o me F l (.ok x C) = auK2 o me F l x C := rfl
def auK (o : Int → Int → Int) (mi me : ME) (F : Fr) (m : R D) : RS := bndS F.sl m fun l C1 => auK1 o me F l (mi F C1)
@[simp] theorem auK_ok (o : Int → Int → Int) (mi me : ME) (F : Fr) (l : D) (C : Store) : auK o mi me F (.ok l C) = auK1 o me F l (mi F C) := rfl
@[simp] theorem ev_augL (o : Int → Int → Int) (mo mi me : ME) (F : Fr) (C : Store) : sAugL o mo mi me F C = auK o mi me F (mo F C) := rfl
@[simp] theorem cbL_ints (n : Nat) : ∀ cs : List Int, cbL n (cs.map D.int) = true
  | [] => rfl
  | c :: cs => by
    show (cb n (.int c) && cbL n (cs.map D.int)) = true
    rw [cbL_ints n cs]
    rfl
end
end CT
set_option maxHeartbeats 4000000
/-! DLT: sorted(set(xs)) of ints, len(set(xs)) of tuples of ints. -/
namespace CT
open PySem L2 PySem.Spec PyProof.Rows
/-! ### unlike members, ascending -/
/-! ### unlike rows -/
/-! ### the calls -/
/-! ### over data -/
end CT
set_option maxHeartbeats 4000000
/-! DLU: repr of an empty dict. -/
namespace CT
open PySem L2 PySem.Spec PyProof.Rows
end CT
set_option maxHeartbeats 4000000
/-! DLV: l.count(x) over data. -/
namespace CT
open PySem L2 PySem.Spec PyProof.Rows
end CT
set_option maxHeartbeats 4000000
/-! DLW: a class whose __init__ takes *numbers and a keyword. -/
namespace CT
open PySem L2 PySem.Spec PyProof.Rows
abbrev tupO (its : List Value) : Obj := { cls := .type "tuple", data := .seq its.toArray }
abbrev pushT (s : Shared) (its : List Value) : Shared := { s with heap := s.heap.push (tupO its) }
/-- binding makes a tuple of the rest -/
def BindsW (s : Shared) (fd : FuncData) (args : Args) (binds : List (Str × Value)) (its : List Value) : Prop :=
  ∀ (M : Model) (A : Around) (E : Value → Shared → Prop) (Q : List (Str × Value) → Shared → Prop), Q binds (pushT s its) → wpAny M A (bindArgs fd args) Q E s
structure FnW (P : Program) (w : World) (K : PySem.W.Frag) (mg : Str → Option Value) (base : Heap) (lev : Nat) (f : Addr) (fd : FuncData) (ps : List Str) (sp : Sp) : Prop where
  len : ∀ vs H Q E, sp vs H Q E → vs.length = ps.length
  run : ∀ (A : Around) (outer : List Env) (s : Shared) (H : Hp) (args : Args) (us its : List Value) (vs ws : List V) (Q : VK) (E : XK), RoomG lev A → Env0 P w K mg base A outer s H → its.length ≤ sizeLine → Vals ws its → BindsW s fd args (ps.zip us) its → Vals vs us → sp vs (upd H s.heap.objs.size (.tup ws)) Q E →
    codeAny (model P w) A (.call (.ref f) args) (CR (L2.CX P w) outer P w H s Q E) s
/-! ### C(e, ..), C(k = e) -/
/-- what the call's arguments become: the keyword's value, the rest -/
inductive Vg where
  | pos | kw
def Vg.v : Vg → List V → V × List V
  | .pos, ds => (.non, ds)
  | .kw, ds => (ds.headD .non, [])
end CT
set_option maxHeartbeats 4000000
/-! DLX: len(set(t)) of a tuple of ints; sorted(t); str(n), f-strings, join. -/
namespace CT
open PySem L2 PySem.Spec PyProof.Rows
/-! ### len(set(t)) -/
/-! ### sorted(t) -/
end CT
set_option maxHeartbeats 4000000
/-! DLY: sorted of lists or tuples; str(n), f-strings, join; str(o) by the class's own __str__. -/
namespace CT
open PySem L2 PySem.Spec PyProof.Rows
end CT
set_option maxHeartbeats 4000000
/-! DLZ: binding of *numbers and a keyword that is None by itself. -/
namespace CT
open PySem L2 PySem.Spec PyProof.Rows
end CT
set_option maxHeartbeats 4000000
/-! DM1: classmethods (C.m(..), cls(k = e)); + of texts. -/
namespace CT
open PySem L2 PySem.Spec PyProof.Rows
end CT
set_option maxHeartbeats 4000000
/-! DM2: the head's Hook where attributes of classes are read. -/
namespace CT
open PySem L2 PySem.Spec PyProof.Rows
end CT
set_option maxHeartbeats 8000000
set_option pp.maxSteps 60
namespace CL
open PySem L2 PySem.Spec PyProof.Rows CT
def top (i : Nat) : Stmt := PySem.Challenge.pw_contentties_k23_webs_added.main.body.getD i (.Pass ⟨0, 0, 0, 0⟩)
def mem (i j : Nat) : Stmt := match top i with
  | .ClassDef _ _ _ b _ _ _ _ _ _ _ => b.getD j (.Pass ⟨0, 0, 0, 0⟩)
  | s => s
def clA (K : PySem.W.Frag) (c : Nat) : Addr := match c with
  | 0 => He.ga K "Web"
  | 2 => He.ga K "TooMany"
  | 3 => He.ga K "TooFew"
  | 4 => He.ga K "Unequal"
  | _ => 0
abbrev s_TooMany__init : Stmt := mem 4 0
abbrev a_TooMany__init (K : PySem.W.Frag) : Addr := He.ma K (He.ga K "TooMany") "__init__"
abbrev s_TooFew__init : Stmt := mem 6 0
abbrev a_TooFew__init (K : PySem.W.Frag) : Addr := He.ma K (He.ga K "TooFew") "__init__"
abbrev s_Unequal__init : Stmt := mem 7 0
abbrev a_Unequal__init (K : PySem.W.Frag) : Addr := He.ma K (He.ga K "Unequal") "__init__"
abbrev s_is_integer : Stmt := top 10
abbrev a_is_integer (K : PySem.W.Frag) : Addr := He.ga K "is_integer"
abbrev s_is_count : Stmt := top 11
abbrev a_is_count (K : PySem.W.Frag) : Addr := He.ga K "is_count"
abbrev s_is_tie : Stmt := top 13
abbrev a_is_tie (K : PySem.W.Frag) : Addr := He.ga K "is_tie"
abbrev s_summed : Stmt := top 14
abbrev a_summed (K : PySem.W.Frag) : Addr := He.ga K "summed"
abbrev s_grid_of : Stmt := top 15
abbrev a_grid_of (K : PySem.W.Frag) : Addr := He.ga K "grid_of"
abbrev s_Web__init : Stmt := mem 16 0
abbrev a_Web__init (K : PySem.W.Frag) : Addr := He.ma K (He.ga K "Web") "__init__"
abbrev s_Web_total : Stmt := mem 16 1
abbrev a_Web_total (K : PySem.W.Frag) : Addr := prG K (He.ga K "Web") "total"
abbrev s_Web_degrees : Stmt := mem 16 2
abbrev a_Web_degrees (K : PySem.W.Frag) : Addr := prG K (He.ga K "Web") "degrees"
abbrev s_Web__add : Stmt := mem 16 6
abbrev a_Web__add (K : PySem.W.Frag) : Addr := He.ma K (He.ga K "Web") "__add__"
abbrev s_Web__sub : Stmt := mem 16 7
abbrev a_Web__sub (K : PySem.W.Frag) : Addr := He.ma K (He.ga K "Web") "__sub__"
abbrev s_Web__mul : Stmt := mem 16 8
abbrev a_Web__mul (K : PySem.W.Frag) : Addr := He.ma K (He.ga K "Web") "__mul__"
abbrev s_Web__rmul : Stmt := mem 16 9
abbrev a_Web__rmul (K : PySem.W.Frag) : Addr := He.ma K (He.ga K "Web") "__rmul__"
abbrev s_law_bag : Stmt := top 18
abbrev a_law_bag (K : PySem.W.Frag) : Addr := He.ga K "_law_bag"
abbrev s_law_take : Stmt := top 19
abbrev a_law_take (K : PySem.W.Frag) : Addr := He.ga K "_law_take"
abbrev s_law_items : Stmt := top 21
abbrev a_law_items (K : PySem.W.Frag) : Addr := He.ga K "_law_items"
abbrev s_law_sums : Stmt := top 22
abbrev a_law_sums (K : PySem.W.Frag) : Addr := He.ga K "_law_sums"
abbrev s_law_web_is : Stmt := top 23
abbrev a_law_web_is (K : PySem.W.Frag) : Addr := He.ga K "_law_web_is"
abbrev s_law_done : Stmt := top 24
abbrev a_law_done (K : PySem.W.Frag) : Addr := He.ga K "_law_done"
abbrev s_law_due : Stmt := top 25
abbrev a_law_due (K : PySem.W.Frag) : Addr := He.ga K "_law_due"
abbrev s_law_right : Stmt := top 26
abbrev a_law_right (K : PySem.W.Frag) : Addr := He.ga K "_law_right"
abbrev s_law : Stmt := top 27
abbrev a_law (K : PySem.W.Frag) : Addr := He.ga K "law"
def d_Web__init (K : PySem.W.Frag) : Addr := He.dflAt ("Web", some "__init__") 0 K
def fs : List (PySem.W.Frag → Bool) := [(He.Fa.free "abs").ok,
  (He.Fa.free "any").ok,
  (He.Fa.free "bool").ok,
  (He.Fa.free "enumerate").ok,
  (He.Fa.free "int").ok,
  (He.Fa.free "isinstance").ok,
  (He.Fa.free "len").ok,
  (He.Fa.free "list").ok,
  (He.Fa.free "max").ok,
  (He.Fa.free "min").ok,
  (He.Fa.free "range").ok,
  (He.Fa.free "repr").ok,
  (He.Fa.free "set").ok,
  (He.Fa.free "sorted").ok,
  (He.Fa.free "sum").ok,
  (He.Fa.free "tuple").ok,
  (He.Fa.int "MOST" 1000000000).ok,
  (He.Fa.glo "is_integer").ok,
  (He.Fa.glo "is_count").ok,
  (He.Fa.glo "is_tie").ok,
  (He.Fa.glo "summed").ok,
  (He.Fa.glo "grid_of").ok,
  (He.Fa.glo "_law_bag").ok,
  (He.Fa.glo "_law_take").ok,
  (He.Fa.glo "_law_items").ok,
  (He.Fa.glo "_law_sums").ok,
  (He.Fa.glo "_law_web_is").ok,
  (He.Fa.glo "_law_done").ok,
  (He.Fa.glo "_law_due").ok,
  (He.Fa.glo "_law_right").ok,
  (He.Fa.glo "law").ok,
  (He.Fa.glo "Web").ok,
  (He.Fa.cls "Web").ok,
  (He.Fa.noat "Web" "size").ok,
  (He.Fa.noat "Web" "grid").ok,
  (He.Fa.noat "Web" "ties").ok,
  (He.Fa.mkr "Web").ok,
  ktB d_Web__init,
  prB "Web" "total",
  prB "Web" "degrees",
  dnB "Web" "__add__",
  dnB "Web" "__sub__",
  dnB "Web" "__mul__",
  dnB "Web" "__rmul__",
  (He.Fa.glo "TooMany").ok,
  xiB "TooMany",
  (He.Fa.noat "TooMany" "limit").ok,
  (He.Fa.glo "TooFew").ok,
  xiB "TooFew",
  (He.Fa.noat "TooFew" "pair").ok,
  (He.Fa.glo "Unequal").ok,
  xiB "Unequal",
  (He.Fa.noat "Unequal" "other").ok,
  (He.Fa.noat "Unequal" "one").ok,
  (He.Fa.glo "ContentError").ok,
  exmB clA "ContentError" [2, 3, 4] [],
  xsB clA [2, 3, 4],
  mulB "Web",
  sfB "Web",
  isaB clA [0]]
def dx_TooMany__init : DefX := ⟨a_TooMany__init, "__init__", "TooMany.__init__", defArgs s_TooMany__init, defBody s_TooMany__init, defScope s_TooMany__init, fun _ => []⟩
def dx_TooFew__init : DefX := ⟨a_TooFew__init, "__init__", "TooFew.__init__", defArgs s_TooFew__init, defBody s_TooFew__init, defScope s_TooFew__init, fun _ => []⟩
def dx_Unequal__init : DefX := ⟨a_Unequal__init, "__init__", "Unequal.__init__", defArgs s_Unequal__init, defBody s_Unequal__init, defScope s_Unequal__init, fun _ => []⟩
def dx_is_integer : DefX := ⟨a_is_integer, "is_integer", "is_integer", defArgs s_is_integer, defBody s_is_integer, defScope s_is_integer, fun _ => []⟩
def dx_is_count : DefX := ⟨a_is_count, "is_count", "is_count", defArgs s_is_count, defBody s_is_count, defScope s_is_count, fun _ => []⟩
def dx_is_tie : DefX := ⟨a_is_tie, "is_tie", "is_tie", defArgs s_is_tie, defBody s_is_tie, defScope s_is_tie, fun _ => []⟩
def dx_summed : DefX := ⟨a_summed, "summed", "summed", defArgs s_summed, defBody s_summed, defScope s_summed, fun _ => []⟩
def dx_grid_of : DefX := ⟨a_grid_of, "grid_of", "grid_of", defArgs s_grid_of, defBody s_grid_of, defScope s_grid_of, fun _ => []⟩
def dx_Web__init : DefX := ⟨a_Web__init, "__init__", "Web.__init__", defArgs s_Web__init, defBody s_Web__init, defScope s_Web__init, fun K => [V.ref (d_Web__init K)]⟩
def dx_Web_total : DefX := ⟨a_Web_total, "total", "Web.total", defArgs s_Web_total, defBody s_Web_total, defScope s_Web_total, fun _ => []⟩
def dx_Web_degrees : DefX := ⟨a_Web_degrees, "degrees", "Web.degrees", defArgs s_Web_degrees, defBody s_Web_degrees, defScope s_Web_degrees, fun _ => []⟩
def dx_Web__add : DefX := ⟨a_Web__add, "__add__", "Web.__add__", defArgs s_Web__add, defBody s_Web__add, defScope s_Web__add, fun _ => []⟩
def dx_Web__sub : DefX := ⟨a_Web__sub, "__sub__", "Web.__sub__", defArgs s_Web__sub, defBody s_Web__sub, defScope s_Web__sub, fun _ => []⟩
def dx_Web__mul : DefX := ⟨a_Web__mul, "__mul__", "Web.__mul__", defArgs s_Web__mul, defBody s_Web__mul, defScope s_Web__mul, fun _ => []⟩
def dx_Web__rmul : DefX := ⟨a_Web__rmul, "__rmul__", "Web.__rmul__", defArgs s_Web__rmul, defBody s_Web__rmul, defScope s_Web__rmul, fun _ => []⟩
def dx_law_bag : DefX := ⟨a_law_bag, "_law_bag", "_law_bag", defArgs s_law_bag, defBody s_law_bag, defScope s_law_bag, fun _ => []⟩
def dx_law_take : DefX := ⟨a_law_take, "_law_take", "_law_take", defArgs s_law_take, defBody s_law_take, defScope s_law_take, fun _ => []⟩
def dx_law_items : DefX := ⟨a_law_items, "_law_items", "_law_items", defArgs s_law_items, defBody s_law_items, defScope s_law_items, fun _ => []⟩
def dx_law_sums : DefX := ⟨a_law_sums, "_law_sums", "_law_sums", defArgs s_law_sums, defBody s_law_sums, defScope s_law_sums, fun _ => []⟩
def dx_law_web_is : DefX := ⟨a_law_web_is, "_law_web_is", "_law_web_is", defArgs s_law_web_is, defBody s_law_web_is, defScope s_law_web_is, fun _ => []⟩
def dx_law_done : DefX := ⟨a_law_done, "_law_done", "_law_done", defArgs s_law_done, defBody s_law_done, defScope s_law_done, fun _ => []⟩
def dx_law_due : DefX := ⟨a_law_due, "_law_due", "_law_due", defArgs s_law_due, defBody s_law_due, defScope s_law_due, fun _ => []⟩
def dx_law_right : DefX := ⟨a_law_right, "_law_right", "_law_right", defArgs s_law_right, defBody s_law_right, defScope s_law_right, fun _ => []⟩
def dx_law : DefX := ⟨a_law, "law", "law", defArgs s_law, defBody s_law, defScope s_law, fun _ => []⟩
def fn : List DefX := [dx_TooMany__init, dx_TooFew__init, dx_Unequal__init, dx_is_integer, dx_is_count, dx_is_tie, dx_summed, dx_grid_of, dx_Web__init, dx_Web_total, dx_Web_degrees, dx_Web__add, dx_Web__sub, dx_Web__mul, dx_Web__rmul, dx_law_bag, dx_law_take, dx_law_items, dx_law_sums, dx_law_web_is, dx_law_done, dx_law_due, dx_law_right, dx_law]
end CL
set_option maxHeartbeats 0
namespace CL
open PySem L2 PySem.Spec PyProof.Rows CT
abbrev RR : PySem.W.OpenRow := PySem.W.OpenLaw.row PySem.Challenge.rw_contentties_k23_webs_added
abbrev hk : PySem.W.Hook := hookX 6 fs fn
def ob (s : PySem.W.SharedT) : AlX := obG 6 fs fn (HandSHeadRun.getT s)
def loose : List Str := (["_wall", "ContentError", "Wrong", "TooMany", "BadTie", "TooFew", "Unequal", "MOST", "is_integer", "is_count", "is_tie", "summed", "grid_of", "Web", "_law_bag", "_law_take"] : List Str) ++ (["_law_one", "_law_items", "_law_sums", "_law_web_is", "_law_done", "_law_due", "_law_right"] : List Str)
section
open HandSHeadRun PySem.W PySem.Calls
theorem run_looks (w : World) (os : OsState) : (HandSHeadRun.endF (HandSHeadRun.stepQ (HandSHeadRun.denQ HandSHeadRun.tabQ) RR.prog w) 20000 RR.prog w os).map (fun s => HandSHeadRun.looksF RR.prog (boot_heap w.params) s.abs) = some (true) := by kernel_rfl
theorem run_seen (w : World) (os : OsState) : (HandSHeadRun.endF (HandSHeadRun.stepQ (HandSHeadRun.denQ HandSHeadRun.tabQ) RR.prog w) 20000 RR.prog w os).map (fun s => HandSHeadRun.seenQ (PySem.W.view RR.prog [27]) loose (importedModules RR.prog.main.body) (fun s => xlAt (PySem.W.view RR.prog [27]) [] s && recOk RR.toRowW.records s) s.abs) = some (openGood (PySem.W.view RR.prog [27]) loose) := by kernel_rfl
theorem run_ob (w : World) (os : OsState) : (HandSHeadRun.endF (HandSHeadRun.stepQ (HandSHeadRun.denQ HandSHeadRun.tabQ) RR.prog w) 20000 RR.prog w os).map (ob) = some (hk.val w) := by kernel_rfl
theorem opt3 {α β γ : Type _} {δ : Type _} {x : Option α} {f : α → β} {g : α → γ} {h : α → δ} {a : β} {b : γ} {c : δ} (h1 : x.map f = some a) (h2 : x.map g = some b) (h3 : x.map h = some c) : x.map (fun s => (f s, g s, h s)) = some (a, b, c) := by
  cases x with
  | none => cases h1
  | some s =>
    have e1 : f s = a := Option.some.inj h1
    have e2 : g s = b := Option.some.inj h2
    have e3 : h s = c := Option.some.inj h3
    show some (f s, g s, h s) = some (a, b, c)
    rw [e1, e2, e3]
end
theorem run (w : World) : HandSHeadRun.RunEq RR (PySem.W.view RR.prog [27]) hk ob 20000 loose w := by
  intro os
  have z := opt3 (run_looks w os) (run_seen w os) (run_ob w os)
  exact z
end CL
/-! DM3: is True; t * n; bool(o) by the class's own __bool__; a or b of tuples, bool(t). -/
namespace CT
/-! ### t * n -/
/-! ### a or b of tuples; bool(t) -/
end CT
/-! DM4: bool(o) by the class's own __bool__. -/
namespace CT
/-! ### bool(o) -/
end CT
/-! DM5: zip of two tuples; min and max of a list of ints with a default. -/
namespace CT
end CT
/-! DM6: min and max of a list of ints with a default. -/
namespace CT
end CT
/-! DM7: x + k, k + x, x - k, k - x, -x for an own x and an int k. -/
namespace CT
end CT
/-! DM8: list(range(a, b, 2)); sorted(set(xs)), len(set(xs)) of up to 4,000 ints. -/
namespace CT
/-! ### sets of more ints -/
end CT
/-! DM9: xs[i], ys[j] = e, f. -/
namespace CT
end CT
/-! DM10: a def that hands back an own list, as an equation. -/
namespace CT
end CT
/-! DM11: {x for u in a if .. for x in b if ..} of ints, two clauses; its members in a list beside the heap. -/
namespace CT
end CT
/-! DM12: sorted({x for u in a if .. for x in b if ..}) over data. -/
namespace CT
end CT
/-! DM13: min and max of one list of ints, not empty. -/
namespace CT
end CT
/-! DM14: in, not in by an own __contains__, as values and as tests. -/
namespace CT
end CT
/-! DM15: == and != of two lists of own objects that are equal item by item. -/
namespace CT
end CT
/-! DM16: an own object as a test, by the class's own __bool__. -/
namespace CT
end CT
/-! DM17: xs.reverse(). -/
namespace CT
end CT
/-! DM18: while, of at most so many turns. -/
namespace CT
end CT
/-! DM19: a def that hands back data with own lists and dicts inside: all become plain data. -/
namespace CT
end CT
/-! DM20: == of two tuples of own objects that are equal item by item. -/
namespace CT
end CT
/-! DM21: sum of a tuple of ints. -/
namespace CT
end CT
/-! DM22: try with several clauses, each with a name (the same slot); each clause's suite returns. -/
namespace CT
/-! ### repr in a clause's suite -/
end CT
/-! DM23: x += y, x -= y of a name that holds an instance with an own __iadd__, __isub__. -/
namespace CT
end CT
/-! DM24a: what the head says for DM24. -/
namespace CT
end CT
/-! DM24: x[i] = v, x[i] += v by own __getitem__, __setitem__; == and != with an instance of another own class. -/
namespace CT
end CT
/-! DM25: sorted(set(list of pairs of ints from 0 to 63)); list(d) of a dict with tuple keys. -/
namespace CT
/-! ### list(d) -/
end CT
/-! E2: loops, comprehensions, dicts worked out. -/
namespace CT
/-! ### comprehensions that change nothing -/
/-! ### two clauses -/
/-! ### dicts from pairs to numbers -/
end CT
/-! E3: walks over cells; own operators worked out. -/
namespace CT
/-! ### own operators -/
end CT
/-! M2: sums of ties, grids, webs. -/
/-! M3: a web is made. -/
/-! M4: Web(size, ties). -/
/-! M5: Web(size, ties), made. -/
/-! M6: the instance. -/
/-! M7: total, degrees, within, changed, crossing. -/
/-! M9: plain facts on sums. -/
/-! M10: a dict's keys in order; _law_made. -/
/-! M11: what repr may be asked of. -/
/-! M12: the ties in order; degrees. -/
/-! M13: _law_web_is, its first parts. -/
/-! M16: degrees add up to twice the total. -/
/-! M18: what is told, as data. -/
/-! M19: bounds of what is told. -/
/-! M20: _law_web_is of the web of a dict. -/
/-! M22: the bag. -/
/-! M23: draws from a bag that lies below other cells; lists of the def's own. -/
/-! M24: _law_mixed. -/
/-! M25: _law_items. -/
/-! O1: items of any size, things mixed, counts of any value. -/
/-! E4: what a run must lead to, told backwards. -/
namespace CT
/-! ### results -/
/-! ### expressions -/
/-! ### operators -/
/-! ### statements -/
/-! ### loops -/
/-! ### comprehensions -/
end CT
/-! E5: more steps told backwards. -/
namespace CT
/-! ### writing -/
end CT
/-! E6: walks and comprehensions, step by step. -/
namespace CT
end CT
/-! Q0: a web's fields. -/
/-! E7: own operators with an int, list(range), extend, two writes, told backwards. -/
namespace CT
/-! ### a comprehension whose list is an own one -/
/-! ### a def that hands back an own list -/
end CT
/-! M14: _law_web_is, its loop. -/
/-! M13: _law_web_is, its first parts. -/
/-! M15: _law_web_is, the loop over the ties. -/
/-! M7: degrees. -/
/-! M7: total, degrees, within, changed, crossing. -/
/-! M17: _law_web_is says True of the web of a dict. -/
/-! M21: _law_web_is, joined. -/
/-! E8: a comprehension that may draw, whose list is an own one. -/
namespace CT
end CT
set_option Elab.async false
set_option linter.all false
set_option maxRecDepth 100000
set_option maxHeartbeats 4000000
/-! DL1: plain data, a store of changing cells, how they lie in the abstract heap; expressions. -/
namespace CT
open PySem L2
/-! ### the domain -/
/-! ### how data lie in the heap -/
section
variable {k : Cn} {A A' : Nat → Addr} {C C' : Store} {H H' : Hp} {v : V} {d : D} {vs : List V} {ds : List D}
theorem RepL.get : ∀ {vs : List V} {ds : List D} {i : Nat} {d : D}, RepL k A C H vs ds → ds[i]? = some d → ∃ v, vs[i]? = some v ∧ Rep k A C H v d
  | _, _, _, _, .nil, e => by simp at e
  | _, _, 0, _, .cons r _, e => by simp at e; subst e; exact ⟨_, rfl, r⟩
  | _, _, i + 1, d, .cons _ t, e => by
    obtain ⟨u, h1, h2⟩ := RepL.get (i := i) (d := d) t (by simpa using e)
    exact ⟨u, by simpa using h1, h2⟩
theorem RepL.append : ∀ {vs ws : List V} {ds es : List D}, RepL k A C H vs ds → RepL k A C H ws es → RepL k A C H (vs ++ ws) (ds ++ es)
  | _, _, _, _, .nil, t => t
  | _, _, _, _, .cons r s, t => .cons r (RepL.append s t)
theorem RepL.rep : ∀ {vs : List V} {ds : List D} (n : Nat), RepL k A C H vs ds → RepL k A C H (List.replicate n vs).flatten (List.replicate n ds).flatten
  | _, _, 0, _ => by simp; exact .nil
  | _, _, n + 1, r => by
    rw [List.replicate_succ, List.replicate_succ, List.flatten_cons, List.flatten_cons]
    exact r.append (RepL.rep n r)
theorem RepL.two {v : V} {d : D} (r : Rep k A C H v d) : RepL k A C H [v] [d] := .cons r .nil
theorem RepL.ints : ∀ {ns : List Int}, RepL k A C H (ns.map V.int) (ns.map D.int)
  | [] => .nil
  | n :: ns => .cons (.int n) RepL.ints
theorem RepL.ints_inv : ∀ {ns : List Int} {vs : List V}, RepL k A C H vs (ns.map D.int) → vs = ns.map V.int
  | [], _, .nil => rfl
  | n :: ns, _, .cons r t => by
    cases r
    rw [RepL.ints_inv t]
    rfl
theorem RepL.bls_inv : ∀ {ns : List Bool} {vs : List V}, RepL k A C H vs (ns.map D.bl) → vs = ns.map V.bl
  | [], _, .nil => rfl
  | n :: ns, _, .cons r t => by
    cases r
    rw [RepL.bls_inv t]
    rfl
end
/-! ### the store -/
/-- what held of values holds on; the callers' cells name the callers' cells alone -/
structure Stp (k : Cn) (fl : Nat) (A : Nat → Addr) (C : Store) (H : Hp) (A' : Nat → Addr) (C' : Store) (H' : Hp) : Prop where
  rep : ∀ v d, Rep k A C H v d → Rep k A' C' H' v d
  len : C.length ≤ C'.length
  low : ∀ f, f ≤ fl → f ≤ C.length → LowC f C → LowC f C'
section
variable {k : Cn} {fl : Nat} {A A' A'' : Nat → Addr} {C C' C'' : Store} {H H' H'' : Hp} {v : V} {d : D} {vs : List V} {ds : List D}
theorem Stp.refl : Stp k fl A C H A C H := ⟨fun _ _ h => h, Nat.le_refl _, fun _ _ _ h => h⟩
theorem Stp.trans (a : Stp k fl A C H A' C' H') (b : Stp k fl A' C' H' A'' C'' H'') : Stp k fl A C H A'' C'' H'' :=
  ⟨fun v d h => b.rep v d (a.rep v d h), Nat.le_trans a.len b.len, fun f h1 h2 h => b.low f h1 (Nat.le_trans h2 a.len) (a.low f h1 h2 h)⟩
theorem Stp.reps (a : Stp k fl A C H A' C' H') : ∀ {vs : List V} {ds : List D}, RepL k A C H vs ds → RepL k A' C' H' vs ds
  | _, _, .nil => .nil
  | _, _, .cons r t => .cons (a.rep _ _ r) (a.reps t)
theorem Kp.stp (q : Kp A C H A' C' H') (h : ∀ f, f ≤ fl → f ≤ C.length → LowC f C → LowC f C') : Stp k fl A C H A' C' H' := ⟨fun _ _ r => r.kp q, q.len, h⟩
theorem Kp.stp0 (q : Kp A C H A' C H') : Stp k fl A C H A' C H' := q.stp fun _ _ _ h => h
theorem low_app {c : Option Cell} {f : Nat} (hf : f ≤ C.length) (h : LowC f C) : LowC f (C ++ [c]) := fun i e hi he => by
  rw [List.getElem?_append_left (Nat.lt_of_lt_of_le hi hf)] at he
  exact h i e hi he
mutual
theorem cb_mono {n m : Nat} (h : n ≤ m) : ∀ {d : D}, cb n d = true → cb m d = true
  | .non, _ => rfl
  | .bl _, _ => rfl
  | .int _, _ => rfl
  | .str _, _ => rfl
  | .lst xs, z => by simp only [cb] at z ⊢; exact cbL_mono h z
  | .tup xs, z => by simp only [cb] at z ⊢; exact cbL_mono h z
  | .scr xs, z => by simp only [cb] at z ⊢; exact cbL_mono h z
  | .kt xs, z => by simp only [cb] at z ⊢; exact cbL_mono h z
  | .obj _ xs, z => by simp only [cb] at z ⊢; exact cbL_mono h z
  | .exn _ xs, z => by simp only [cb] at z ⊢; exact cbL_mono h z
  | .cls _, _ => rfl
  | .dT _ xs, z => by simp only [cb] at z ⊢; exact cbL_mono h z
  | .cell i, z => by simp only [cb, decide_eq_true_eq] at z ⊢; omega
theorem cbL_mono {n m : Nat} (h : n ≤ m) : ∀ {ds : List D}, cbL n ds = true → cbL m ds = true
  | [], _ => rfl
  | d :: ds, z => by
    simp only [cbL, Bool.and_eq_true] at z ⊢
    exact ⟨cb_mono h z.1, cbL_mono h z.2⟩
end
theorem cbC_mono {n m : Nat} (h : n ≤ m) {c : Cell} (z : cbC n c = true) : cbC m c = true := by
  cases c <;> exact cbL_mono h z
/-- a write: below the floor no cells are named -/
theorem low_set {i : Nat} {c : Cell} (hc : i < fl → cbC 0 c = true) {f : Nat} (hf : f ≤ fl) (h : LowC f C) : LowC f (C.set i (some c)) := fun j e hj he => by
  by_cases hij : i = j
  · subst hij
    by_cases hl : i < C.length
    · rw [List.getElem?_set_self hl] at he
      rw [← Option.some.inj (Option.some.inj he)]
      exact cbC_mono (Nat.zero_le _) (hc (by omega))
    · rw [List.getElem?_eq_none (by simp; omega)] at he
      cases he
  · rw [List.getElem?_set_ne hij] at he
    exact h j e hj he
theorem low_take {f n : Nat} (h : LowC f C) : LowC f (C.take n) := fun j e hj he => by
  by_cases hn : j < n
  · rw [List.getElem?_take_of_lt hn] at he
    exact h j e hj he
  · rw [List.getElem?_eq_none (by simp; omega)] at he
    cases he
theorem StOk.live (x : StOk k A C H) {a : Addr} (l : Live A C a) : ∃ o, H a = some o := by
  obtain ⟨i, c, e, rfl⟩ := l
  exact (x.at_ i c e).there
theorem StOk.notLive (x : StOk k A C H) {a : Addr} (h : H a = none) : ¬ Live A C a := fun l => by
  obtain ⟨o, e⟩ := x.live l
  rw [h] at e
  cases e
/-- a cell changes -/
theorem live_set {i : Nat} {c c0 : Cell} {a : Addr} (hi : C[i]? = some (some c0)) (l : Live A (C.set i (some c)) a) : Live A C a := by
  obtain ⟨j, c', e, rfl⟩ := l
  by_cases hj : i = j
  · subst hj
    exact ⟨i, c0, hi, rfl⟩
  · rw [List.getElem?_set_ne hj] at e
    exact ⟨j, c', e, rfl⟩
theorem kp_write {i : Nat} {c c0 : Cell} {o : HO} (hi : C[i]? = some (some c0)) : Kp A C H A (C.set i (some c)) (upd H (A i) o) :=
  ⟨fun a u l e => ⟨fun y => l (live_set hi y), by rw [upd_ne (fun z => l ⟨i, c0, hi, z.symm⟩)]; exact e⟩, fun _ _ => rfl, by simp⟩
theorem StOk.write {i : Nat} {c c0 : Cell} {o : HO} (x : StOk k A C H) (hi : C[i]? = some (some c0)) (y : CellAt k A (C.set i (some c)) (upd H (A i) o) (A i) c) : StOk k A (C.set i (some c)) (upd H (A i) o) := by
  have get : ∀ j c', (C.set i (some c))[j]? = some (some c') → j ≠ i → C[j]? = some (some c') := fun j c' e hj => by
    rw [List.getElem?_set_ne (Ne.symm hj)] at e
    exact e
  have here : ∀ c', (C.set i (some c))[i]? = some (some c') → c' = c := fun c' e => by
    rw [List.getElem?_set_self (List.getElem?_eq_some_iff.mp hi).1] at e
    exact (Option.some.inj (Option.some.inj e)).symm
  have some_ : ∀ j c', (C.set i (some c))[j]? = some (some c') → ∃ c'', C[j]? = some (some c'') := fun j c' e => by
    by_cases hj : j = i
    · rw [hj]
      exact ⟨c0, hi⟩
    · exact ⟨c', get j c' e hj⟩
  refine ⟨fun j c' e => ?_, fun j l c1 c2 e1 e2 z => ?_⟩
  · by_cases hj : j = i
    · subst hj
      rw [here c' e]
      exact y
    · have e' := get j c' e hj
      exact (x.at_ j c' e').kp (kp_write hi) (upd_ne (fun z => hj (x.inj j i _ _ e' hi z)))
  · obtain ⟨d1, f1⟩ := some_ j c1 e1
    obtain ⟨d2, f2⟩ := some_ l c2 e2
    exact x.inj j l _ _ f1 f2 z
theorem Rep.cut {n : Nat} (hn : n ≤ C.length) (r : Rep k A C H v d) (h : CT.cb n d = true) : Rep k A (C.take n) H v d :=
  r.fw (fw_take n) (by rw [List.length_take, Nat.min_eq_left hn]; exact h)
theorem RepL.cut {n : Nat} (hn : n ≤ C.length) (r : RepL k A C H vs ds) (h : CT.cbL n ds = true) : RepL k A (C.take n) H vs ds :=
  r.fw (fw_take n) (by rw [List.length_take, Nat.min_eq_left hn]; exact h)
end
/-! ### frames -/
/-- behind a computation m that began at A, C, H -/
def Aft (k : Cn) (fl : Nat) (A : Nat → Addr) (C : Store) (H : Hp) {α β : Type} (rel : (Nat → Addr) → Store → Hp → β → α → Prop) (m : R α) (Q : α → Store → (Nat → Addr) → Hp → β → Prop) (W : XK) : Prop := match m with
  | .ok d C' => ∀ A' H' v, Stp k fl A C H A' C' H' → StOk k A' C' H' → rel A' C' H' v d → Q d C' A' H' v
  | .exc e C' => ∀ A' H' dd vs, Stp k fl A C H A' C' H' → StOk k A' C' H' → H' dd = some (.xd ((k.fn e.c).zip vs)) → vs.length = (k.fn e.c).length → RepL k A' C' H' vs e.fs → W (.ref (k.cl e.c)) (some dd) H'
  | .stuck => False
section
variable {k : Cn} {A A' A1 : Nat → Addr} {F : Fr} {C C' C1 : Store} {H H' H1 : Hp} {σ : L2.St} {fl : Nat}
theorem SR.step (s : SR k A F C σ H) (p : Stp k F.fl A C H A' C' H') (st : StOk k A' C' H') : SR k A' F C' σ H' :=
  ⟨st, p.low _ (Nat.le_refl _) s.fl s.low, Nat.le_trans s.fl p.len, s.len, fun i d e => let ⟨v, h1, h2⟩ := s.sl i d e; ⟨v, h1, p.rep v d h2⟩⟩
theorem SR.unset {i : Nat} (s : SR k A F C σ H) : SR k A ⟨F.fl, F.sl.set i none⟩ C (σ.set i none) H :=
  ⟨s.st, s.low, s.fl, by simp [s.len], fun j e h => by
    have h' : (F.sl.set i none)[j]? = some (some e) := h
    by_cases hij : i = j
    · subst hij
      by_cases hl : i < F.sl.length
      · rw [List.getElem?_set_self hl] at h'
        cases h'
      · rw [List.getElem?_eq_none (by simp; omega)] at h'
        cases h'
    · rw [List.getElem?_set_ne hij] at h'
      obtain ⟨u, h1, h2⟩ := s.sl j e h'
      exact ⟨u, by rw [List.getElem?_set_ne hij]; exact h1, h2⟩⟩
variable {α β γ δ : Type} {rel : (Nat → Addr) → Store → Hp → β → α → Prop} {rel2 : (Nat → Addr) → Store → Hp → δ → γ → Prop} {m : R α} {Q : α → Store → (Nat → Addr) → Hp → β → Prop} {W : XK}
theorem Aft.shift (s : Stp k fl A C H A1 C1 H1) (h : Aft k fl A C H rel m Q W) : Aft k fl A1 C1 H1 rel m Q W := by
  cases m with
  | ok d C' => exact fun A' H' v p st r => h A' H' v (s.trans p) st r
  | exc e C' => exact fun A' H' dd vs p st x l r => h A' H' dd vs (s.trans p) st x l r
  | stuck => exact h
theorem Aft.mono {Q' : α → Store → (Nat → Addr) → Hp → β → Prop} (h : Aft k fl A C H rel m Q W) (hq : ∀ d C' A' H' v, Stp k fl A C H A' C' H' → StOk k A' C' H' → rel A' C' H' v d → Q d C' A' H' v → Q' d C' A' H' v) : Aft k fl A C H rel m Q' W := by
  cases m with
  | ok d C' => exact fun A' H' v p st r => hq _ _ _ _ _ p st r (h A' H' v p st r)
  | exc e C' => exact h
  | stuck => exact h
theorem Aft.bnd {f : α → Store → R γ} {Q : γ → Store → (Nat → Addr) → Hp → δ → Prop} (h : Aft k fl A C H rel2 (bnd m f) Q W) :
    Aft k fl A C H rel m (fun d C1 A1 H1 v => Aft k fl A1 C1 H1 rel2 (f d C1) Q W) W := by
  cases m with
  | ok d C' => exact fun A' H' v p st r => Aft.shift p h
  | exc e C' => exact h
  | stuck => exact h
end
abbrev RepD (k : Cn) : (Nat → Addr) → Store → Hp → V → D → Prop := fun A C H v d => Rep k A C H v d
abbrev RepDs (k : Cn) : (Nat → Addr) → Store → Hp → List V → List D → Prop := fun A C H v d => RepL k A C H v d
/-- an expression's reading by data -/
def LE (k : Cn) (W : WX) (m : ME) : TE := fun σ H Q => ∃ A F C, SR k A F C σ H ∧ Aft k F.fl A C H (RepD k) (m F C) (fun _ _ _ H' v => Q v H') (fun c d H' => W c d σ H')
def LA (k : Cn) (W : WX) (m : MA) : TA := fun σ H Q => ∃ A F C, SR k A F C σ H ∧ Aft k F.fl A C H (RepDs k) (m F C) (fun _ _ _ H' v => Q v H') (fun c d H' => W c d σ H')
def LT (k : Cn) (W : WX) (m : MT) : TT := fun σ H Q => ∃ A F C, SR k A F C σ H ∧ Aft k F.fl A C H (fun _ _ _ (v d : Bool) => v = d) (m F C) (fun _ _ _ H' v => Q v H') (fun c d H' => W c d σ H')
end CT
set_option maxHeartbeats 4000000
/-! DL2: expressions over data: names, constants, operators, displays, subscripts, calls of built-ins. -/
namespace CT
open PySem L2
theorem _root_.L2.PE.cq {X : Cx} {e : Expr} {t t' : TE} (h : PE X e t) (c : ∀ σ H Q, t' σ H Q → t σ H Q) : PE X e t' := ⟨fun pins s σ H Q I q => h.run pins s σ H Q I (c σ H Q q)⟩
theorem _root_.L2.PT.cq {X : Cx} {e : Expr} {t t' : TT} (h : PT X e t) (c : ∀ σ H Q, t' σ H Q → t σ H Q) : PT X e t' := ⟨fun pins s σ H Q I q => h.run pins s σ H Q I (c σ H Q q)⟩
theorem _root_.L2.PW.cq {X : Cx} {e : Expr} {t t' : TT} (h : PW X e t) (c : ∀ σ H Q, t' σ H Q → t σ H Q) : PW X e t' := ⟨fun w pins s σ H Q I q => h.run w pins s σ H Q I (c σ H Q q)⟩
theorem _root_.L2.PA.cq {X : Cx} {e : List Expr} {t t' : TA} (h : PA X e t) (c : ∀ σ H Q, t' σ H Q → t σ H Q) : PA X e t' := ⟨fun p pins s σ H Q I q => h.run p pins s σ H Q I (c σ H Q q)⟩
theorem _root_.L2.PS.cq {X : Cx} {e : Stmt} {t t' : TS} (h : PS X e t) (c : ∀ D σ H, t' D σ H → t D σ H) : PS X e t' := ⟨fun pins s σ H Q I q => h.run pins s σ H Q I (c Q σ H q)⟩
theorem _root_.L2.PSs.cq {X : Cx} {e : List Stmt} {t t' : TS} (h : PSs X e t) (c : ∀ D σ H, t' D σ H → t D σ H) : PSs X e t' := ⟨fun pins s σ H Q I q => h.run pins s σ H Q I (c Q σ H q)⟩
/-! ### names, constants -/
section
variable {X : Cx} {k : Cn} {W : WX}
theorem le_var {i : Nat} {σ : L2.St} {H : Hp} {Q : VK} (h : LE k W (mVar i) σ H Q) : tVar i σ H Q := by
  obtain ⟨A, F, C, s, h⟩ := h
  unfold mVar at h
  split at h
  · rename_i d e
    obtain ⟨v, h1, h2⟩ := s.sl i d e
    exact ⟨v, h1, h A H v Stp.refl s.st h2⟩
  · exact h.elim
theorem dv (i : Nat) {x : Str} {pos : Pos} (hN : X.N[i]? = some x := by rfl) (hv : Vis X.env.scope x := by first | exact Or.inl rfl | exact Or.inr (Or.inl rfl) | exact Or.inr (Or.inr rfl)) (hd : (x == ("__debug__" : Str)) = false := by decide)
    (hcd : (x == ("__classdict__" : Str)) = false := by decide) : PE X (.Name x pos) (LE k W (mVar i)) := (pe_var hN hv hd hcd).cq fun _ _ _ h => le_var h
/-- a value that every heap reads as d -/
theorem le_c {v : V} {d : D} (hr : ∀ A C H, Rep k A C H v d) {σ : L2.St} {H : Hp} {Q : VK} (h : LE k W (mC d) σ H Q) : tC v σ H Q := by
  obtain ⟨A, F, C, s, h⟩ := h
  exact h A H v Stp.refl s.st (hr _ _ _)
theorem de_int {i j pos} : PE X (.Constant (.int i) j pos) (LE k W (mC (.int i))) := pe_int.cq fun _ _ _ h => le_c (fun _ _ _ => .int i) h
theorem de_bl {i j pos} : PE X (.Constant (.bool i) j pos) (LE k W (mC (.bl i))) := pe_bl.cq fun _ _ _ h => le_c (fun _ _ _ => .bl i) h
theorem de_non {j pos} : PE X (.Constant .none j pos) (LE k W (mC .non)) := pe_non.cq fun _ _ _ h => le_c (fun _ _ _ => .non) h
theorem de_str {i j pos} : PE X (.Constant (.str i) j pos) (LE k W (mC (.str i))) := pe_str.cq fun _ _ _ h => le_c (fun _ _ _ => .str i) h
theorem de_glob {x : Str} {v : V} {d : D} {u : Value} {pos : Pos} (hr : ∀ A C H, Rep k A C H v d) (hg : Gl X x) (hm : X.mg x = some u) (r : RelV v u) (hd : (x == ("__debug__" : Str)) = false := by decide) : PE X (.Name x pos) (LE k W (mC d)) :=
  (pe_glob hg hm r hd).cq fun _ _ _ h => le_c hr h
end
/-! ### operators -/
/-- an operation on values that the data's operation o tells -/
def OpD (k : Cn) (r : R2) (o : O2) : Prop := ∀ fl A C H x y dx dy d C' (Q : VK), fl ≤ C.length → LowC fl C → StOk k A C H → Rep k A C H x dx → Rep k A C H y dy → o dx dy C = some (d, C') →
  (∀ A' H' v, Stp k fl A C H A' C' H' → StOk k A' C' H' → Rep k A' C' H' v d → Q v H') → r x y H Q
def ApD (k : Cn) (r : List V → Hp → VK → Prop) (o : OA) : Prop := ∀ fl A C H x dx d C' (Q : VK), fl ≤ C.length → LowC fl C → StOk k A C H → RepL k A C H x dx → o dx C = some (d, C') →
  (∀ A' H' v, Stp k fl A C H A' C' H' → StOk k A' C' H' → Rep k A' C' H' v d → Q v H') → r x H Q
theorem aft_ofO {k : Cn} {fl : Nat} {A : Nat → Addr} {C : Store} {H : Hp} {W : XK} {o : Option (D × Store)} {Q : D → Store → (Nat → Addr) → Hp → V → Prop} (h : Aft k fl A C H (RepD k) (ofO o) Q W) :
    ∃ d C', o = some (d, C') ∧ ∀ A' H' v, Stp k fl A C H A' C' H' → StOk k A' C' H' → Rep k A' C' H' v d → Q d C' A' H' v := by
  cases o with
  | none => exact h.elim
  | some p => exact ⟨p.1, p.2, rfl, h⟩
section
variable {X : Cx} {k : Cn} {W : WX} {σ : L2.St} {H : Hp} {Q : VK}
theorem le_op {r : R2} {o : O2} {ma mb : ME} (ho : OpD k r o) (h : LE k W (mOp o ma mb) σ H Q) : tOp r (LE k W ma) (LE k W mb) σ H Q := by
  obtain ⟨A, F, C, s, h⟩ := h
  refine ⟨A, F, C, s, (Aft.bnd (rel := RepD k) h).mono fun dx C1 A1 H1 x p1 st1 rx h1 => ?_⟩
  have s1 := s.step p1 st1
  refine ⟨A1, F, C1, s1, (Aft.bnd (rel := RepD k) h1).mono fun dy C2 A2 H2 y p2 st2 ry h2 => ?_⟩
  have s2 := s1.step p2 st2
  obtain ⟨d, C', e, q⟩ := aft_ofO h2
  exact ho F.fl A2 C2 H2 x y dx dy d C' Q s2.fl s2.low st2 (p2.rep _ _ rx) ry e q
theorem la_nil {Q : List V → Hp → Prop} (h : LA k W mNil σ H Q) : tNil σ H Q := by
  obtain ⟨A, F, C, s, h⟩ := h
  exact h A H [] Stp.refl s.st .nil
theorem la_cons {Q : List V → Hp → Prop} {ma : ME} {mr : MA} (h : LA k W (mCons ma mr) σ H Q) : tCons (LE k W ma) (LA k W mr) σ H Q := by
  obtain ⟨A, F, C, s, h⟩ := h
  refine ⟨A, F, C, s, (Aft.bnd (rel := RepD k) h).mono fun dx C1 A1 H1 x p1 st1 rx h1 => ?_⟩
  have s1 := s.step p1 st1
  refine ⟨A1, F, C1, s1, (Aft.bnd (rel := RepDs k) h1).mono fun dy C2 A2 H2 y p2 st2 ry h2 => ?_⟩
  exact h2 A2 H2 (x :: y) Stp.refl st2 (.cons (p2.rep _ _ rx) ry)
theorem le_ap {r : List V → Hp → VK → Prop} {o : OA} {ma : MA} (ho : ApD k r o) (h : LE k W (mAp o ma) σ H Q) : tCB r (LA k W ma) σ H Q := by
  obtain ⟨A, F, C, s, h⟩ := h
  refine ⟨A, F, C, s, (Aft.bnd (rel := RepDs k) h).mono fun dx C1 A1 H1 x p1 st1 rx h1 => ?_⟩
  have s1 := s.step p1 st1
  obtain ⟨d, C', e, q⟩ := aft_ofO h1
  exact ho F.fl A1 C1 H1 x dx d C' Q s1.fl s1.low st1 rx e q
theorem de_op {a b : Expr} {pos : Pos} {op : Operator} {r : R2} {o : O2} {ma mb : ME} (hR : OpR X (binaryOp op) r) (hD : OpD k r o) (ha : PE X a (LE k W ma)) (hb : PE X b (LE k W mb)) : PE X (.BinOp a op b pos) (LE k W (mOp o ma mb)) :=
  (pe_op hR ha hb).cq fun _ _ _ h => le_op hD h
theorem de_cmp {a b : Expr} {pos : Pos} {op : CmpOp} {r : R2} {o : O2} {ma mb : ME} (hR : OpR X (compareOp op) r) (hD : OpD k r o) (ha : PE X a (LE k W ma)) (hb : PE X b (LE k W mb)) (hm : behindInMarks op b = false) : PE X (.Compare a [op] [b] pos) (LE k W (mOp o ma mb)) :=
  (pe_cmpR hR ha hb hm).cq fun _ _ _ h => le_op hD h
theorem de_ix {a b : Expr} {pos : Pos} {r : R2} {o : O2} {ma mb : ME} (hR : IxR X r) (hD : OpD k r o) (ha : PE X a (LE k W ma)) (hb : PE X b (LE k W mb)) (hs : PlainIx b := by exact fun _ _ => rfl) : PE X (.Subscript a b pos) (LE k W (mOp o ma mb)) :=
  (pe_ix hR ha hb hs).cq fun _ _ _ h => le_op hD h
theorem da_nil : PA X [] (LA k W mNil) := pa_nil.cq fun _ _ _ h => la_nil h
theorem da_cons {e : Expr} {es : List Expr} {ma : ME} {mr : MA} (ha : PE X e (LE k W ma)) (hr : PA X es (LA k W mr)) (hs : starEach (e :: es) X.env = (false, eval e X.env) :: starEach es X.env := by rfl) : PA X (e :: es) (LA k W (mCons ma mr)) :=
  (pa_cons ha hr hs).cq fun _ _ _ h => la_cons h
theorem de_callB {x : Str} {id : String} {e : Expr} {es : List Expr} {p pos : Pos} {r : List V → Hp → VK → Prop} {o : OA} {ma : MA} (hc : CallR X (.builtin id) r) (hD : ApD k r o) (hg : Gl X x) (hm : X.mg x = none) (hv : bootBuiltins x = some (.builtin id))
    (ha : PA X (e :: es) (LA k W ma)) (hn : x ≠ "__name__" := by decide) (hdb : (x == ("__debug__" : Str)) = false := by decide) (he : starEach (e :: es) X.env = (false, eval e X.env) :: starEach es X.env := by rfl) (hpl : (backTo pos (starEach es X.env)).any (·.1) = false := by rfl) :
    PE X (.Call (.Name x p) (e :: es) [] pos) (LE k W (mAp o ma)) := (pe_callB hc hg hm hv ha hn hdb he hpl).cq fun _ _ _ h => le_ap hD h
theorem de_callTy {x : Str} {id : String} {e : Expr} {es : List Expr} {p pos : Pos} {r : List V → Hp → VK → Prop} {o : OA} {ma : MA} (hc : CallR X (.type id) r) (hD : ApD k r o) (hg : Gl X x) (hm : X.mg x = none) (hv : bootBuiltins x = some (.type id))
    (ha : PA X (e :: es) (LA k W ma)) (hn : x ≠ "__name__" := by decide) (hdb : (x == ("__debug__" : Str)) = false := by decide) (he : starEach (e :: es) X.env = (false, eval e X.env) :: starEach es X.env := by rfl) (hpl : (backTo pos (starEach es X.env)).any (·.1) = false := by rfl) :
    PE X (.Call (.Name x p) (e :: es) [] pos) (LE k W (mAp o ma)) := (pe_callTy hc hg hm hv ha hn hdb he hpl).cq fun _ _ _ h => le_ap hD h
end
/-! ### tests, and, or, not -/
abbrev RepB : (Nat → Addr) → Store → Hp → Bool → Bool → Prop := fun _ _ _ v d => v = d
section
variable {X : Cx} {k : Cn} {W : WX} {σ : L2.St} {H : Hp}
theorem lt_val {ma : ME} {Q : Bool → Hp → Prop} (h : LT k W (mTst ma) σ H Q) : tB (LE k W ma) σ H Q := by
  obtain ⟨A, F, C, s, h⟩ := h
  refine ⟨A, F, C, s, (Aft.bnd (rel := RepD k) h).mono fun dx C1 A1 H1 x p1 st1 rx h1 => ?_⟩
  cases rx with
  | bl b => exact ⟨b, rfl, h1 A1 H1 b Stp.refl st1 rfl⟩
  | _ => exact h1.elim
theorem dt_val {e : Expr} {ma : ME} (h : PE X e (LE k W ma)) (he : ∀ whole, isTrue e X.env whole = (do let v ← whole; standAt e.pos; holding [v] (truthy v)) := by intro _; rfl) : PT X e (LT k W (mTst ma)) :=
  (pt_val h he).cq fun _ _ _ h => lt_val h
theorem lt_and {a b : MT} {Q : Bool → Hp → Prop} (h : LT k W (tAndM a b) σ H Q) : tAnd (LT k W a) (LT k W b) σ H Q := by
  obtain ⟨A, F, C, s, h⟩ := h
  refine ⟨A, F, C, s, (Aft.bnd (rel := RepB) h).mono fun dx C1 A1 H1 x p1 st1 rx h1 => ?_⟩
  have rx : x = dx := rx
  subst rx
  cases x with
  | true => exact iteT ⟨A1, F, C1, s.step p1 st1, h1⟩
  | false => exact iteF (h1 A1 H1 false Stp.refl st1 rfl)
theorem lt_or {a b : MT} {Q : Bool → Hp → Prop} (h : LT k W (tOrM a b) σ H Q) : tOr (LT k W a) (LT k W b) σ H Q := by
  obtain ⟨A, F, C, s, h⟩ := h
  refine ⟨A, F, C, s, (Aft.bnd (rel := RepB) h).mono fun dx C1 A1 H1 x p1 st1 rx h1 => ?_⟩
  have rx : x = dx := rx
  subst rx
  cases x with
  | true => exact iteT (h1 A1 H1 true Stp.refl st1 rfl)
  | false => exact iteF ⟨A1, F, C1, s.step p1 st1, h1⟩
theorem lt_not {a : MT} {Q : Bool → Hp → Prop} (h : LT k W (tNotM a) σ H Q) : tNot (LT k W a) σ H Q := by
  obtain ⟨A, F, C, s, h⟩ := h
  refine ⟨A, F, C, s, (Aft.bnd (rel := RepB) h).mono fun dx C1 A1 H1 x p1 st1 rx h1 => ?_⟩
  have rx : x = dx := rx
  subst rx
  exact h1 A1 H1 (!x) Stp.refl st1 rfl
theorem dw_and1 {a : Expr} {pos : Pos} {m : MT} (ha : PT X a (LT k W m)) : PW X (.BoolOp .And [a] pos) (LT k W m) := pw_and1 ha
theorem dw_or1 {a : Expr} {pos : Pos} {m : MT} (ha : PT X a (LT k W m)) : PW X (.BoolOp .Or [a] pos) (LT k W m) := pw_or1 ha
theorem dw_and {a b : Expr} {rest : List Expr} {pos : Pos} {m n : MT} (ha : PT X a (LT k W m)) (hb : PW X (.BoolOp .And (b :: rest) pos) (LT k W n)) : PW X (.BoolOp .And (a :: b :: rest) pos) (LT k W (tAndM m n)) := (pw_and ha hb).cq fun _ _ _ h => lt_and h
theorem dw_or {a b : Expr} {rest : List Expr} {pos : Pos} {m n : MT} (ha : PT X a (LT k W m)) (hb : PW X (.BoolOp .Or (b :: rest) pos) (LT k W n)) : PW X (.BoolOp .Or (a :: b :: rest) pos) (LT k W (tOrM m n)) := (pw_or ha hb).cq fun _ _ _ h => lt_or h
theorem dt_not {a : Expr} {pos : Pos} {m : MT} (ha : PT X a (LT k W m)) : PT X (.UnaryOp .Not a pos) (LT k W (tNotM m)) := (pt_not ha).cq fun _ _ _ h => lt_not h
theorem le_and {a b : ME} {Q : VK} (h : LE k W (mAnd a b) σ H Q) : tAndV (LE k W a) (LE k W b) σ H Q := by
  obtain ⟨A, F, C, s, h⟩ := h
  refine ⟨A, F, C, s, (Aft.bnd (rel := RepD k) h).mono fun dx C1 A1 H1 x p1 st1 rx h1 => ?_⟩
  cases rx with
  | bl b =>
    refine ⟨b, rfl, ?_⟩
    cases b with
    | true => exact iteT ⟨A1, F, C1, s.step p1 st1, h1⟩
    | false => exact iteF (h1 A1 H1 (.bl false) Stp.refl st1 (.bl false))
  | _ => exact h1.elim
theorem le_not {a : ME} {Q : VK} (h : LE k W (mNot a) σ H Q) : tNotV (LE k W a) σ H Q := by
  obtain ⟨A, F, C, s, h⟩ := h
  refine ⟨A, F, C, s, (Aft.bnd (rel := RepD k) h).mono fun dx C1 A1 H1 x p1 st1 rx h1 => ?_⟩
  cases rx with
  | bl b => exact ⟨b, rfl, h1 A1 H1 (.bl (!b)) Stp.refl st1 (.bl _)⟩
  | _ => exact h1.elim
theorem le_if {t : MT} {a b : ME} {Q : VK} (h : LE k W (mIf t a b) σ H Q) : tIf (LT k W t) (LE k W a) (LE k W b) σ H Q := by
  obtain ⟨A, F, C, s, h⟩ := h
  refine ⟨A, F, C, s, (Aft.bnd (rel := RepB) h).mono fun dx C1 A1 H1 x p1 st1 rx h1 => ?_⟩
  have rx : x = dx := rx
  subst rx
  cases x with
  | true => exact iteT ⟨A1, F, C1, s.step p1 st1, h1⟩
  | false => exact iteF ⟨A1, F, C1, s.step p1 st1, h1⟩
theorem de_one {op} {a : Expr} {pos : Pos} {m : ME} (h : PE X a (LE k W m)) : PE X (.BoolOp op [a] pos) (LE k W m) := pe_one h
theorem de_and {a b : Expr} {rest : List Expr} {pos : Pos} {m n : ME} (ha : PE X a (LE k W m)) (hb : PE X (.BoolOp .And (b :: rest) pos) (LE k W n)) : PE X (.BoolOp .And (a :: b :: rest) pos) (LE k W (mAnd m n)) := (pe_and ha hb).cq fun _ _ _ h => le_and h
theorem de_not {a : Expr} {pos : Pos} {m : ME} (ha : PE X a (LE k W m)) : PE X (.UnaryOp .Not a pos) (LE k W (mNot m)) := (pe_not ha).cq fun _ _ _ h => le_not h
theorem de_if {c a b : Expr} {pos : Pos} {t : MT} {m n : ME} (hc : PT X c (LT k W t)) (ha : PE X a (LE k W m)) (hb : PE X b (LE k W n)) : PE X (.IfExp c a b pos) (LE k W (mIf t m n)) := (pe_ifExp hc ha hb).cq fun _ _ _ h => le_if h
end
/-! ### numbers -/
theorem opD_I0 {k : Cn} {g : Int → Int → V} {g' : Int → Int → D} (hg : ∀ i j A C H, Rep k A C H (g i j) (g' i j)) : OpD k (rI0 g) (oI0 g') := by
  intro fl A C H x y dx dy d C' Q hf hl st rx ry e q
  unfold oI0 at e
  split at e
  · cases rx; cases ry; cases e
    exact ⟨_, _, rfl, rfl, q A H _ Stp.refl st (hg _ _ _ _ _)⟩
  · cases e
theorem opD_I {k : Cn} {P : Int → Int → Prop} {c : Int → Int → Bool} {g : Int → Int → V} {g' : Int → Int → D} (hc : ∀ i j, c i j = true → P i j) (hg : ∀ i j A C H, Rep k A C H (g i j) (g' i j)) : OpD k (rI P g) (oI c g') := by
  intro fl A C H x y dx dy d C' Q hf hl st rx ry e q
  unfold oI at e
  split at e
  · split at e
    · rename_i h
      cases rx; cases ry; cases e
      exact ⟨_, _, rfl, rfl, hc _ _ h, q A H _ Stp.refl st (hg _ _ _ _ _)⟩
    · cases e
  · cases e
def cDiv (i j : Int) : Bool := decide (0 < j) && decide (j < 4611686018427387904)
def oDiv : O2 := oI cDiv fun i j => .int (i / j)
def oMod : O2 := oI (fun _ j => decide (0 < j)) fun i j => .int (i % j)
section
variable {k : Cn}
theorem d_add : OpD k (rI0 fun i j => .int (i + j)) oAdd := opD_I0 fun i j _ _ _ => .int _
theorem d_sub : OpD k (rI0 fun i j => .int (i - j)) oSub := opD_I0 fun i j _ _ _ => .int _
theorem d_mul : OpD k (rI CMul fun i j => .int (i * j)) oMul := opD_I (fun i j h => by
  simp only [cMul, Bool.or_eq_true, Bool.and_eq_true, decide_eq_true_eq] at h
  exact h) fun i j _ _ _ => .int _
theorem d_div : OpD k (rI CDivW fun i j => .int (i / j)) oDiv := opD_I (fun i j h => by
  simp only [cDiv, Bool.and_eq_true, decide_eq_true_eq] at h
  refine ⟨h.1, Nat.lt_of_lt_of_le ((Nat.log2_lt (by omega)).mpr (show j.natAbs < 2 ^ 62 by omega)) (by decide)⟩) fun i j _ _ _ => .int _
theorem d_mod : OpD k (rI (fun _ j => 0 < j) fun i j => .int (i % j)) oMod := opD_I (fun i j h => by simpa using h) fun i j _ _ _ => .int _
theorem d_lt : OpD k (rI0 fun i j => .bl (decide (i < j))) oLt := opD_I0 fun i j _ _ _ => .bl _
theorem d_le : OpD k (rI0 fun i j => .bl (decide (i ≤ j))) oLe := opD_I0 fun i j _ _ _ => .bl _
theorem d_gt : OpD k (rI0 fun i j => .bl (decide (j < i))) oGt := opD_I0 fun i j _ _ _ => .bl _
theorem d_ge : OpD k (rI0 fun i j => .bl (decide (j ≤ i))) oGe := opD_I0 fun i j _ _ _ => .bl _
end
/-! ### a chain of two comparisons -/
theorem le_chain {k : Cn} {W : WX} {σ : L2.St} {H : Hp} {Q : VK} {r r' : R2} {o o' : O2} {ma mb mc : ME} (ho : OpD k r o) (ho' : OpD k r' o') (h : LE k W (mChain o o' ma mb mc) σ H Q) : tChain r r' (LE k W ma) (LE k W mb) (LE k W mc) σ H Q := by
  obtain ⟨A, F, C, s, h⟩ := h
  refine ⟨A, F, C, s, (Aft.bnd (rel := RepD k) h).mono fun dx C1 A1 H1 x p1 st1 rx h1 => ?_⟩
  have s1 := s.step p1 st1
  refine ⟨A1, F, C1, s1, (Aft.bnd (rel := RepD k) h1).mono fun dy C2 A2 H2 y p2 st2 ry h2 => ?_⟩
  have s2 := s1.step p2 st2
  obtain ⟨d, C', e, q⟩ := aft_ofO (Aft.bnd (rel := RepD k) h2)
  refine ho F.fl A2 C2 H2 x y dx dy d C' _ s2.fl s2.low st2 (p2.rep _ _ rx) ry e fun A3 H3 z p3 st3 rz => ?_
  have h3 := q A3 H3 z p3 st3 rz
  cases rz with
  | bl b =>
    refine ⟨b, rfl, ?_⟩
    cases b with
    | true =>
      have s3 := s2.step p3 st3
      refine iteT ⟨A3, F, C', s3, (Aft.bnd (rel := RepD k) h3).mono fun dw C4 A4 H4 w p4 st4 rw h4 => ?_⟩
      have s4 := s3.step p4 st4
      obtain ⟨d', C'', e', q'⟩ := aft_ofO h4
      exact ho' F.fl A4 C4 H4 y w dy dw d' C'' Q s4.fl s4.low st4 (p4.rep _ _ (p3.rep _ _ ry)) rw e' q'
    | false => exact iteF (h3 A3 H3 (.bl false) Stp.refl st3 (.bl false))
  | _ => exact h3.elim
theorem de_chain {X : Cx} {k : Cn} {W : WX} {a b c : Expr} {pos : Pos} {op op' : CmpOp} {r r' : R2} {o o' : O2} {ma mb mc : ME} (hR : OpR X (compareOp op) r) (hD : OpD k r o) (hR' : OpR X (compareOp op') r') (hD' : OpD k r' o') (ha : PE X a (LE k W ma)) (hb : PE X b (LE k W mb)) (hc : PE X c (LE k W mc))
    (hm : lastMarks [op, op'] [b, c] = false := by with_unfolding_all rfl) : PE X (.Compare a [op, op'] [b, c] pos) (LE k W (mChain o o' ma mb mc)) :=
  (pe_chain hR hR' ha hb hc hm).cq fun _ _ _ h => le_chain hD hD' h
end CT
set_option maxHeartbeats 4000000
/-! DL3: lists, tuples, dicts over data. -/
namespace CT
open PySem L2
/-! ### what a datum is as a list, a tuple, a dict -/
def vS (d : D) (C : Store) : Option (List D) := match d with
  | .tup xs => some xs
  | .kt xs => some xs
  | .lst xs => some xs
  | .cell i => match C[i]? with
    | some (some (.lst xs)) => some xs
    | _ => none
  | _ => none
section
variable {k : Cn} {A : Nat → Addr} {C : Store} {H : Hp} {v : V} {d : D} {ds : List D}
theorem vL_at (st : StOk k A C H) (r : Rep k A C H v d) (e : vL d C = some ds) : ∃ a vs, v = .ref a ∧ H a = some (.lst vs) ∧ RepL k A C H vs ds := by
  cases r with
  | lst l h q => cases e; exact ⟨_, _, rfl, h, q⟩
  | cell hi =>
    rename_i i
    simp only [vL] at e
    split at e
    · rename_i xs ec
      cases e
      obtain ⟨vs, h, q⟩ := st.at_ i _ ec
      exact ⟨_, vs, rfl, h, q⟩
    · cases e
  | _ => cases e
theorem vT_at (r : Rep k A C H v d) (e : vT d = some ds) : ∃ a vs, v = .ref a ∧ SqT k.K H a vs ∧ RepL k A C H vs ds := by
  cases r with
  | tup l h q => cases e; exact ⟨_, _, rfl, .inl (.inl h), q⟩
  | ktup h q => cases e; exact ⟨_, _, rfl, .inr h, q⟩
  | _ => cases e
theorem vS_at (st : StOk k A C H) (r : Rep k A C H v d) (e : vS d C = some ds) : ∃ a vs, v = .ref a ∧ (SqL k.K H a vs ∨ SqT k.K H a vs) ∧ RepL k A C H vs ds := by
  cases r with
  | lst l h q => cases e; exact ⟨_, _, rfl, .inl (.inl (.inl h)), q⟩
  | tup l h q => cases e; exact ⟨_, _, rfl, .inr (.inl (.inl h)), q⟩
  | ktup h q => cases e; exact ⟨_, _, rfl, .inr (.inr h), q⟩
  | cell hi =>
    rename_i i
    simp only [vS] at e
    split at e
    · rename_i xs ec
      cases e
      obtain ⟨vs, h, q⟩ := st.at_ i _ ec
      exact ⟨_, vs, rfl, .inl (.inl (.inl h)), q⟩
    · cases e
  | _ => cases e
theorem vD_at {ks : List (List Key)} (st : StOk k A C H) (r : Rep k A C H v d) (e : vD d C = some (ks, ds)) : ∃ a kvs, v = .ref a ∧ H a = some (.dT kvs) ∧ kvs.map (·.1) = ks ∧ RepL k A C H (kvs.map (·.2)) ds := by
  cases r with
  | dT l h q => cases e; exact ⟨_, _, rfl, h, rfl, q⟩
  | cell hi =>
    rename_i i
    simp only [vD] at e
    split at e
    · rename_i xs ec
      cases e
      obtain ⟨vs, h, z, q⟩ := st.at_ i _ ec
      exact ⟨_, vs, rfl, h, z, q⟩
    · cases e
  | _ => cases e
/-! ### new lists, tuples, dicts: own cells or plain data -/
theorem ext_at (A : Nat → Addr) (n : Nat) (p : Addr) : ext A n p n = p := if_pos rfl
theorem rep_new {p : Addr} (n : Nat) (c : Cell) {H : Hp} {C : Store} : Rep k (ext A C.length p) (C ++ [some c]) H (.ref p) (.cell C.length) := by
  have h : Rep k (ext A C.length p) (C ++ [some c]) H (.ref (ext A C.length p C.length)) (.cell C.length) := .cell (by simp)
  rw [ext_at] at h
  exact h
theorem fresh_L {fl : Nat} {own : Bool} {p : Addr} {vs : List V} (hf : fl ≤ C.length) (st : StOk k A C H) (r : RepL k A C H vs ds) (h : H p = none) :
    ∃ A', Stp k fl A C H A' (mkL own ds C).2 (upd H p (.lst vs)) ∧ StOk k A' (mkL own ds C).2 (upd H p (.lst vs)) ∧ Rep k A' (mkL own ds C).2 (upd H p (.lst vs)) (.ref p) (mkL own ds C).1 := by
  cases own with
  | true =>
    have q : Kp A C H (ext A C.length p) (C ++ [some (.lst ds)]) (upd H p (.lst vs)) := kp_cell (k := k) st h
    exact ⟨ext A C.length p, q.stp fun f h1 h2 l => low_app h2 l, st.cell h ⟨vs, upd_same, r.kp q⟩, rep_new C.length _⟩
  | false =>
    have q : Kp A C H A C (upd H p (.lst vs)) := kp_new h
    exact ⟨A, q.stp0, st.new h, .lst (st.notLive h) upd_same (r.kp q)⟩
theorem fresh_T {fl : Nat} {p : Addr} {vs : List V} (st : StOk k A C H) (r : RepL k A C H vs ds) (h : H p = none) :
    Stp k fl A C H A C (upd H p (.tup vs)) ∧ StOk k A C (upd H p (.tup vs)) ∧ Rep k A C (upd H p (.tup vs)) (.ref p) (.tup ds) := by
  have q : Kp A C H A C (upd H p (.tup vs)) := kp_new h
  exact ⟨q.stp0, st.new h, .tup (st.notLive h) upd_same (r.kp q)⟩
theorem fresh_D {fl : Nat} {own : Bool} {p : Addr} {kvs : List (List Key × V)} (hf : fl ≤ C.length) (st : StOk k A C H) (r : RepL k A C H (kvs.map (·.2)) ds) (h : H p = none) :
    ∃ A', Stp k fl A C H A' (mkD own (kvs.map (·.1)) ds C).2 (upd H p (.dT kvs)) ∧ StOk k A' (mkD own (kvs.map (·.1)) ds C).2 (upd H p (.dT kvs)) ∧ Rep k A' (mkD own (kvs.map (·.1)) ds C).2 (upd H p (.dT kvs)) (.ref p) (mkD own (kvs.map (·.1)) ds C).1 := by
  cases own with
  | true =>
    have q : Kp A C H (ext A C.length p) (C ++ [some (.dT (kvs.map (·.1)) ds)]) (upd H p (.dT kvs)) := kp_cell (k := k) st h
    exact ⟨ext A C.length p, q.stp fun f h1 h2 l => low_app h2 l, st.cell h ⟨kvs, upd_same, rfl, r.kp q⟩, rep_new C.length _⟩
  | false =>
    have q : Kp A C H A C (upd H p (.dT kvs)) := kp_new h
    exact ⟨A, q.stp0, st.new h, .dT (st.notLive h) upd_same (r.kp q)⟩
end
/-! ### displays -/
theorem szN_le {n : Nat} (h : szN n = true) : n ≤ sizeLine := by
  rw [sizeLine_eq]
  exact of_decide_eq_true h
section
variable {X : Cx} {k : Cn} {W : WX} {es : List Expr} {ma : MA} {pos : Pos}
theorem le_lst {own : Bool} {σ : L2.St} {H : Hp} {Q : VK} (h : LE k W (mAp (oLst own) ma) σ H Q) : tLst (LA k W ma) σ H Q := by
  obtain ⟨A, F, C, s, h⟩ := h
  refine ⟨A, F, C, s, (Aft.bnd (rel := RepDs k) h).mono fun dx C1 A1 H1 x p1 st1 rx h1 => ?_⟩
  have s1 := s.step p1 st1
  obtain ⟨d, C', e, q⟩ := aft_ofO h1
  unfold oLst at e
  split at e
  · rename_i hz
    refine ⟨by rw [rx.length]; exact szN_le hz, fun p hp => ?_⟩
    obtain ⟨A2, w1, w2, w3⟩ := fresh_L (own := own) s1.fl st1 rx hp
    have e1 := Option.some.inj e
    rw [e1] at w1 w2 w3
    exact q A2 _ _ w1 w2 w3
  · cases e
theorem de_lst (own : Bool) (h : PA X es (LA k W ma)) : PE X (.List es pos) (LE k W (mAp (oLst own) ma)) := (pe_lst h).cq fun _ _ _ h => le_lst h
theorem le_tup {σ : L2.St} {H : Hp} {Q : VK} (h : LE k W (mAp oTup ma) σ H Q) : tTup (LA k W ma) σ H Q := by
  obtain ⟨A, F, C, s, h⟩ := h
  refine ⟨A, F, C, s, (Aft.bnd (rel := RepDs k) h).mono fun dx C1 A1 H1 x p1 st1 rx h1 => ?_⟩
  obtain ⟨d, C', e, q⟩ := aft_ofO h1
  unfold oTup at e
  split at e
  · rename_i hz
    cases e
    refine ⟨by rw [rx.length]; exact szN_le hz, fun p hp => ?_⟩
    obtain ⟨w1, w2, w3⟩ := fresh_T st1 rx hp
    exact q A1 _ _ w1 w2 w3
  · cases e
theorem de_tup {x1} (h : PA X es (LA k W ma)) : PE X (.Tuple es x1 pos) (LE k W (mAp oTup ma)) := (pe_tup h).cq fun _ _ _ h => le_tup h
theorem de_dnew (own : Bool) : PE X (.Dict [] [] pos) (LE k W (mDNew own)) := pe_dnewT.cq fun σ H Q h => by
  obtain ⟨A, F, C, s, h⟩ := h
  intro p hp
  obtain ⟨A2, w1, w2, w3⟩ := fresh_D (own := own) (kvs := []) (ds := []) s.fl s.st .nil hp
  exact h A2 _ _ w1 w2 w3
end
/-! ### subscripts -/
def oIx : O2 := fun x y C => match y with
  | .int i => (vS x C).bind fun xs => (atI xs i).map fun d => (d, C)
  | _ => none
theorem atI_rep {k : Cn} {A : Nat → Addr} {C : Store} {H : Hp} {vs : List V} {ds : List D} {i : Int} {d : D} (r : RepL k A C H vs ds) (h : atI ds i = some d) : ∃ v, atI vs i = some v ∧ Rep k A C H v d := by
  unfold atI at h ⊢
  rw [r.length]
  cases e : ixN ds.length i with
  | none => rw [e] at h; cases h
  | some j =>
    rw [e] at h
    exact r.get h
theorem d_ix {k : Cn} : OpD k (rIx k.K) oIx := by
  intro fl A C H x y dx dy d C' Q hf hl st rx ry e q
  cases ry with
  | int i =>
    simp only [oIx] at e
    cases ev : vS dx C with
    | none => rw [ev] at e; cases e
    | some xs =>
      rw [ev] at e
      simp only [Option.bind_some, Option.map_eq_some_iff] at e
      obtain ⟨d', e1, e2⟩ := e
      cases e2
      obtain ⟨a, vs, rfl, hs, r⟩ := vS_at st rx ev
      obtain ⟨v, hv, rv⟩ := atI_rep r e1
      rcases hs with hs | hs
      · exact .inl ⟨a, vs, i, v, rfl, rfl, hs, hv, q A H v Stp.refl st rv⟩
      · exact .inr (.inl ⟨a, vs, i, v, rfl, rfl, hs, hv, q A H v Stp.refl st rv⟩)
  | _ => cases e
/-! ### dicts with tuple keys -/
theorem keyL_rep {k : Cn} {A : Nat → Addr} {C : Store} {H : Hp} : ∀ {vs : List V} {ds : List D} {ks : List Key}, RepL k A C H vs ds → keyL ds = some ks → vs = ks.map kV
  | _, _, _, .nil, e => by cases e; rfl
  | _, _, _, .cons r t, e => by
    cases r with
    | int i =>
      simp only [keyL, Option.map_eq_some_iff] at e
      obtain ⟨l, e1, e2⟩ := e
      cases e2
      rw [keyL_rep t e1]
      rfl
    | str s =>
      simp only [keyL, Option.map_eq_some_iff] at e
      obtain ⟨l, e1, e2⟩ := e
      cases e2
      rw [keyL_rep t e1]
      rfl
    | _ => cases e
theorem lookT_rep {k : Cn} {A : Nat → Addr} {C : Store} {H : Hp} (key : List Key) : ∀ {kvs : List (List Key × V)} {ds : List D}, RepL k A C H (kvs.map (·.2)) ds →
    (∀ d, lookT (kvs.map (·.1)) ds key = some d → ∃ v, valV kvs key = some v ∧ Rep k A C H v d) ∧ (lookT (kvs.map (·.1)) ds key = none → valV kvs key = none)
  | [], _, .nil => ⟨fun d h => (by cases h), fun _ => rfl⟩
  | p :: kvs, _, .cons r t => by
    have ih := lookT_rep key t
    by_cases e : p.1 = key
    · refine ⟨fun d h => ?_, fun h => ?_⟩
      · simp only [List.map_cons, lookT, if_pos e] at h
        cases h
        exact ⟨p.2, valV_pos e, r⟩
      · simp only [List.map_cons, lookT, if_pos e] at h
        cases h
    · refine ⟨fun d h => ?_, fun h => ?_⟩
      · simp only [List.map_cons, lookT, if_neg e] at h
        obtain ⟨v, h1, h2⟩ := ih.1 d h
        exact ⟨v, by rw [valV_neg e]; exact h1, h2⟩
      · simp only [List.map_cons, lookT, if_neg e] at h
        rw [valV_neg e]
        exact ih.2 h
theorem setT_rep {k : Cn} {A : Nat → Addr} {C : Store} {H : Hp} {v : V} {x : D} (key : List Key) (rx : Rep k A C H v x) : ∀ {kvs : List (List Key × V)} {ds : List D}, RepL k A C H (kvs.map (·.2)) ds →
    RepL k A C H ((kvs.map fun kv => if kv.1 = key then (kv.1, v) else kv).map (·.2)) (setT (kvs.map (·.1)) ds key x)
  | [], _, .nil => .nil
  | p :: kvs, _, .cons r t => by
    have ih := setT_rep key rx t
    by_cases e : p.1 = key
    · simp only [setT, List.map_cons, if_pos e]
      exact .cons rx ih
    · simp only [setT, List.map_cons, if_neg e]
      exact .cons r ih
theorem keys_map (key : List Key) (v : V) : ∀ kvs : List (List Key × V), (kvs.map fun kv => if kv.1 = key then (kv.1, v) else kv).map (·.1) = kvs.map (·.1)
  | [] => rfl
  | p :: kvs => by
    simp only [List.map_cons, keys_map key v kvs]
    split <;> rfl
theorem putK_rep {k : Cn} {A : Nat → Addr} {C : Store} {H : Hp} {v : V} {x : D} (key : List Key) (rx : Rep k A C H v x) {kvs : List (List Key × V)} {ds : List D} (r : RepL k A C H (kvs.map (·.2)) ds) :
    (putK kvs key v).map (·.1) = (putT (kvs.map (·.1)) ds key x).1 ∧ RepL k A C H ((putK kvs key v).map (·.2)) (putT (kvs.map (·.1)) ds key x).2 := by
  have ea : ((kvs.map (·.1)).any fun k => decide (k = key)) = (kvs.any fun kv => decide (kv.1 = key)) := by rw [List.any_map]; rfl
  unfold putK putT
  rw [ea]
  split
  · exact ⟨keys_map key v kvs, setT_rep key rx r⟩
  · rw [List.map_append, List.map_append]
    exact ⟨rfl, r.append (.cons rx .nil)⟩
/-- d[y] -/
def oDIx : O2 := fun x y C => match y with
  | .tup ds => (vD x C).bind fun p => (keyL ds).bind fun key => (lookT p.1 p.2 key).map fun d => (d, C)
  | _ => none
/-- a key that lies in the heap as a tuple -/
theorem key_at {k : Cn} {A : Nat → Addr} {C : Store} {H : Hp} {y : V} {ds : List D} {key : List Key} (r : Rep k A C H y (.tup ds)) (hk : keyL ds = some key) : ∃ b, y = .ref b ∧ H b = some (.tup (key.map kV)) := by
  cases r with
  | tup l h t =>
    have e := keyL_rep t hk
    subst e
    exact ⟨_, rfl, h⟩
section
variable {X : Cx} {k : Cn} {W : WX} {σ : L2.St} {H : Hp} {Q : VK}
theorem le_dix {ma mb : ME} (h : LE k W (mOp oDIx ma mb) σ H Q) : tDGet (LE k W ma) (LE k W mb) σ H Q := by
  obtain ⟨A, F, C, s, h⟩ := h
  refine ⟨A, F, C, s, (Aft.bnd (rel := RepD k) h).mono fun dx C1 A1 H1 x p1 st1 rx h1 => ?_⟩
  have s1 := s.step p1 st1
  refine ⟨A1, F, C1, s1, (Aft.bnd (rel := RepD k) h1).mono fun dy C2 A2 H2 y p2 st2 ry h2 => ?_⟩
  obtain ⟨d, C', e, q⟩ := aft_ofO h2
  unfold oDIx at e
  split at e
  · rename_i ds
    simp only [Option.bind_eq_some_iff, Option.map_eq_some_iff] at e
    obtain ⟨⟨ks, vs⟩, e1, key, e2, d', e3, e4⟩ := e
    cases e4
    obtain ⟨a, kvs, rfl, ha, hk, hr⟩ := vD_at st2 (p2.rep _ _ rx) e1
    obtain ⟨b, rfl, hb⟩ := key_at ry e2
    subst hk
    obtain ⟨v, hv, rv⟩ := (lookT_rep key hr).1 _ e3
    exact ⟨a, v, rfl, by rw [← hv]; exact DGet.t ha hb, q A2 H2 v Stp.refl st2 rv⟩
  · cases e
theorem le_dget {ma mb mc : ME} (h : LE k W (mDGet ma mb mc) σ H Q) : tDGet2 (LE k W ma) (LE k W mb) (LE k W mc) σ H Q := by
  obtain ⟨A, F, C, s, h⟩ := h
  refine ⟨A, F, C, s, (Aft.bnd (rel := RepD k) h).mono fun dx C1 A1 H1 x p1 st1 rx h1 => ?_⟩
  have s1 := s.step p1 st1
  have key1 : ∀ (A1 : Nat → Addr) (H1 : Hp) (x : V), StOk k A1 C1 H1 → Rep k A1 C1 H1 x dx → (vD dx C1).isSome = true → ∃ a, x = .ref a ∧ IsD H1 a := fun A1 H1 x st1 rx hs => by
    obtain ⟨⟨ks, vs⟩, e1⟩ := Option.isSome_iff_exists.mp hs
    obtain ⟨a, kvs, rfl, ha, _, _⟩ := vD_at st1 rx e1
    exact ⟨a, rfl, .inr ⟨kvs, .inl ha⟩⟩
  by_cases hs : (vD dx C1).isSome = true
  · obtain ⟨a, rfl, hd⟩ := key1 A1 H1 x st1 rx hs
    rw [if_pos hs] at h1
    refine ⟨a, rfl, hd, A1, F, C1, s1, (Aft.bnd (rel := RepD k) h1).mono fun dy C2 A2 H2 y p2 st2 ry h2 => ?_⟩
    have s2 := s1.step p2 st2
    refine ⟨A2, F, C2, s2, (Aft.bnd (rel := RepD k) h2).mono fun dz C3 A3 H3 z p3 st3 rz h3 => ?_⟩
    obtain ⟨d, C', e, q⟩ := aft_ofO h3
    unfold oDGet at e
    split at e
    · rename_i ds
      simp only [Option.bind_eq_some_iff, Option.map_eq_some_iff] at e
      obtain ⟨⟨ks, vs⟩, e1, key, e2, e4⟩ := e
      cases e4
      obtain ⟨a', kvs, ea, ha, hk, hr⟩ := vD_at st3 (p3.rep _ _ (p2.rep _ _ rx)) e1
      cases ea
      obtain ⟨b, rfl, hb⟩ := key_at (p3.rep _ _ ry) e2
      subst hk
      refine ⟨_, DGet.t ha hb, ?_⟩
      cases el : lookT (kvs.map (·.1)) vs key with
      | none =>
        rw [(lookT_rep key hr).2 el]
        rw [el] at q
        exact q A3 H3 z Stp.refl st3 rz
      | some d =>
        obtain ⟨v, hv, rv⟩ := (lookT_rep key hr).1 _ el
        rw [hv]
        rw [el] at q
        exact q A3 H3 v Stp.refl st3 rv
    · cases e
  · rw [if_neg hs] at h1
    exact h1.elim
theorem de_dix {a b : Expr} {pos : Pos} {ma mb : ME} (hu : X.A.units + 1 < cLine) (ha : PE X a (LE k W ma)) (hb : PE X b (LE k W mb)) (hs : NoSl b := by exact fun _ _ => rfl) : PE X (.Subscript a b pos) (LE k W (mOp oDIx ma mb)) := (pe_dget hu ha hb hs).cq fun _ _ _ h => le_dix h
theorem de_dget {o e f : Expr} {apos cpos : Pos} {ma mb mc : ME} (hu : X.A.units + 1 < cLine) (ho : PE X o (LE k W ma)) (he : PE X e (LE k W mb)) (hf : PE X f (LE k W mc)) (m : M2 X o "get" apos e f cpos := by exact ⟨rfl, rfl, rfl, rfl⟩) :
    PE X (.Call (.Attribute o "get" apos) [e, f] [] cpos) (LE k W (mDGet ma mb mc)) := (pe_dget2 hu ho he hf m).cq fun _ _ _ h => le_dget h
end
end CT
set_option maxHeartbeats 4000000
/-! DL4: statements, defs over data. -/
namespace CT
open PySem L2
def AftS (k : Cn) (W : WX) (fl : Nat) (A : Nat → Addr) (C : Store) (H : Hp) (m : RS) (E : Ends) : Prop := match m with
  | .nx sl C' => ∀ A' σ' H', Stp k fl A C H A' C' H' → SR k A' ⟨fl, sl⟩ C' σ' H' → E.nx σ' H'
  | .bk sl C' => ∀ A' σ' H', Stp k fl A C H A' C' H' → SR k A' ⟨fl, sl⟩ C' σ' H' → E.bk σ' H'
  | .ct sl C' => ∀ A' σ' H', Stp k fl A C H A' C' H' → SR k A' ⟨fl, sl⟩ C' σ' H' → E.ct σ' H'
  | .rt d C' => ∀ A' H' v, Stp k fl A C H A' C' H' → StOk k A' C' H' → Rep k A' C' H' v d → E.rt v H'
  | .xc e sl C' => ∀ A' σ' H' dd vs, Stp k fl A C H A' C' H' → SR k A' ⟨fl, sl⟩ C' σ' H' → H' dd = some (.xd ((k.fn e.c).zip vs)) → vs.length = (k.fn e.c).length → RepL k A' C' H' vs e.fs → W (.ref (k.cl e.c)) (some dd) σ' H'
  | .stuck => False
def LS (k : Cn) (W : WX) (m : MS) : TS := fun E σ H => ∃ A F C, SR k A F C σ H ∧ AftS k W F.fl A C H (m F C) E
section
variable {k : Cn} {W : WX} {fl : Nat} {A A1 : Nat → Addr} {C C1 : Store} {H H1 : Hp} {m : RS} {E E' : Ends}
theorem AftS.shift (s : Stp k fl A C H A1 C1 H1) (h : AftS k W fl A C H m E) : AftS k W fl A1 C1 H1 m E := by
  cases m with
  | nx sl C' => exact fun A' σ' H' p r => h A' σ' H' (s.trans p) r
  | bk sl C' => exact fun A' σ' H' p r => h A' σ' H' (s.trans p) r
  | ct sl C' => exact fun A' σ' H' p r => h A' σ' H' (s.trans p) r
  | rt d C' => exact fun A' H' v p st r => h A' H' v (s.trans p) st r
  | xc e sl C' => exact fun A' σ' H' dd vs p r x l t => h A' σ' H' dd vs (s.trans p) r x l t
  | stuck => exact h
end
/-! ### simple statements -/
theorem AftS.bnd {k : Cn} {W : WX} {F : Fr} {A : Nat → Addr} {C : Store} {σ : L2.St} {H : Hp} {E : Ends} {α β : Type} {rel : (Nat → Addr) → Store → Hp → β → α → Prop} {m : R α} {f : α → Store → RS} (s : SR k A F C σ H)
    (h : AftS k W F.fl A C H (bndS F.sl m f) E) : Aft k F.fl A C H rel m (fun d C1 A1 H1 v => AftS k W F.fl A1 C1 H1 (f d C1) E) (fun c d H' => W c d σ H') := by
  cases m with
  | ok d C' => exact fun A' H' v p st r => AftS.shift p h
  | exc e C' => exact fun A' H' dd vs p st x l r => h A' σ H' dd vs p (s.step p st) x l r
  | stuck => exact h
def sNever : MS := fun _ _ => .stuck
section
variable {X : Cx} {k : Cn} {W : WX} {E : Ends} {σ : L2.St} {H : Hp}
theorem ls_next (h : LS k W sNext E σ H) : tNext E σ H := by
  obtain ⟨A, F, C, s, h⟩ := h
  exact h A σ H Stp.refl s
theorem ls_seq {a b : MS} (h : LS k W (sSeq a b) E σ H) : tSeq (LS k W a) (LS k W b) E σ H := by
  obtain ⟨A, F, C, s, h⟩ := h
  refine ⟨A, F, C, s, ?_⟩
  unfold sSeq at h
  cases e : a F C with
  | nx sl C' =>
    rw [e] at h
    exact fun A' σ' H' p r => ⟨A', ⟨F.fl, sl⟩, C', r, AftS.shift p h⟩
  | bk sl C' => rw [e] at h; exact h
  | ct sl C' => rw [e] at h; exact h
  | rt d C' => rw [e] at h; exact h
  | xc x sl C' => rw [e] at h; exact h
  | stuck => rw [e] at h; exact h
theorem ls_drop {m : ME} (h : LS k W (sDrop m) E σ H) : tDrop (LE k W m) E σ H := by
  obtain ⟨A, F, C, s, h⟩ := h
  exact ⟨A, F, C, s, (AftS.bnd (rel := RepD k) s h).mono fun d C1 A1 H1 v p st r h1 => h1 A1 σ H1 Stp.refl (s.step p st)⟩
theorem ls_ret {m : ME} (h : LS k W (sRet m) E σ H) : tRet (LE k W m) E σ H := by
  obtain ⟨A, F, C, s, h⟩ := h
  exact ⟨A, F, C, s, (AftS.bnd (rel := RepD k) s h).mono fun d C1 A1 H1 v p st r h1 => h1 A1 H1 v Stp.refl st r⟩
theorem ls_if {t : MT} {a b : MS} (h : LS k W (sIf t a b) E σ H) : tIfS (LT k W t) (LS k W a) (LS k W b) E σ H := by
  obtain ⟨A, F, C, s, h⟩ := h
  refine ⟨A, F, C, s, (AftS.bnd (rel := RepB) s h).mono fun dx C1 A1 H1 x p st rx h1 => ?_⟩
  have rx : x = dx := rx
  subst rx
  cases x with
  | true => exact iteT ⟨A1, F, C1, s.step p st, h1⟩
  | false => exact iteF ⟨A1, F, C1, s.step p st, h1⟩
theorem dss_nil : PSs X [] (LS k W sNext) := pss_nil.cq fun _ _ _ h => ls_next h
theorem dss_cons {st : Stmt} {rest : List Stmt} {a b : MS} (h1 : PS X st (LS k W a)) (h2 : PSs X rest (LS k W b)) : PSs X (st :: rest) (LS k W (sSeq a b)) := (pss_cons h1 h2).cq fun _ _ _ h => ls_seq h
theorem dss_one {st : Stmt} {a : MS} (h1 : PS X st (LS k W a)) : PSs X [st] (LS k W a) := pss_one h1
theorem ds_expr {e : Expr} {pos : Pos} {m : ME} (he : PE X e (LE k W m)) (hs : swapsWith e none pos.line X.env = pure false := by rfl) : PS X (.Expr e pos) (LS k W (sDrop m)) := (ps_expr he hs).cq fun _ _ _ h => ls_drop h
theorem ds_ret {e : Expr} {pos : Pos} {m : ME} (he : PE X e (LE k W m)) : PS X (.Return (some e) pos) (LS k W (sRet m)) := (ps_ret he).cq fun _ _ _ h => ls_ret h
theorem ds_if {c : Expr} {a b : List Stmt} {pos : Pos} {t : MT} {m n : MS} (hc : PT X c (LT k W t)) (ha : PSs X a (LS k W m)) (hb : PSs X b (LS k W n)) : PS X (.If c a b pos) (LS k W (sIf t m n)) := (ps_if hc ha hb).cq fun _ _ _ h => ls_if h
theorem ds_never {st : Stmt} : PS X st (LS k W sNever) := ps_never.cq fun E σ H h => by
  obtain ⟨A, F, C, s, h⟩ := h
  exact h.elim
end
/-! ### targets -/
def gsN : List Nat → TGs
  | [] => gNil
  | i :: is => gCons (gName i) (gsN is)
section
variable {X : Cx} {k : Cn}
theorem setAll_len : ∀ {is : List Nat} {ds : List D} {sl sl' : List (Option D)}, setAll is ds sl = some sl' → ds.length = is.length
  | [], [], _, _, _ => rfl
  | _ :: is, _ :: ds, _, _, h => by
    have := setAll_len (is := is) (ds := ds) h
    simp [this]
  | [], _ :: _, _, _, h => by cases h
  | _ :: _, [], _, _, h => by cases h
theorem _root_.L2.PG.cq {X : Cx} {e : Expr} {t t' : TG} (h : PG X e t) (c : ∀ v σ H Q, t' v σ H Q → t v σ H Q) : PG X e t' := ⟨fun pins s σ H v u Q I r q => h.run pins s σ H v u Q I r (c v σ H Q q)⟩
end
end CT
set_option maxHeartbeats 4000000
/-! DL5: stores, loops over data. -/
namespace CT
open PySem L2
section
variable {X : Cx} {k : Cn} {W : WX} {E : Ends} {σ : L2.St} {H : Hp}
/-! ### assignments -/
theorem ls_set {m : ME} {i : Nat} (h : LS k W (sAsg m (gN i)) E σ H) : tAsg (LE k W m) (gName i) E σ H := by
  obtain ⟨A, F, C, s, h⟩ := h
  exact ⟨A, F, C, s, (AftS.bnd (rel := RepD k) s h).mono fun d C1 A1 H1 v p st r h1 => h1 A1 _ H1 Stp.refl ((s.step p st).set r)⟩
theorem ds_set {i : Nat} {x : Str} {e : Expr} {pos pos' : Pos} {m : ME} (hN : X.N.Nodup) (hi : X.N[i]? = some x) (hx : Loc X.env.scope x) (he : PE X e (LE k W m)) (hs : swapsWith e (some (.Name x pos')) pos.line X.env = pure false := by rfl) (hf : X.fn x = true ∨ X.env.scope.names.lookup x = some .local := by first | exact .inl rfl | exact .inr rfl | assumption) :
    PS X (.Assign [.Name x pos'] e pos) (LS k W (sAsg m (gN i))) := (ps_set hN hi hx he hs hf).cq fun _ _ _ h => ls_set h
theorem ls_par {i j : Nat} {m : MA} (h : LS k W (sPar [i, j] m) E σ H) : tPar i j (LA k W m) E σ H := by
  obtain ⟨A, F, C, s, h⟩ := h
  refine ⟨A, F, C, s, (AftS.bnd (rel := RepDs k) s h).mono fun d C1 A1 H1 vs p st r h1 => ?_⟩
  cases r with
  | nil => exact h1.elim
  | cons r1 t1 =>
    cases t1 with
    | nil => exact h1.elim
    | cons r2 t2 =>
      cases t2 with
      | nil => exact ⟨_, _, rfl, h1 A1 _ H1 Stp.refl (((s.step p st).set r1).set r2)⟩
      | cons r3 t3 => exact h1.elim
theorem ds_par {i j : Nat} {x y : Str} {a b : Expr} {px py pt pos : Pos} {kt k2 pt2} {m : MA} (hc : X.calm = true) (hN : X.N.Nodup) (hi : X.N[i]? = some x) (hj : X.N[j]? = some y) (hij : i ≠ j)
    (hx : X.env.scope.names.lookup x = some .local) (hy : X.env.scope.names.lookup y = some .local) (ha : PA X [a, b] (LA k W m))
    (hw : swappedStores [.Tuple [.Name x px, .Name y py] kt pt] (.Tuple [a, b] k2 pt2) X.env = pure (some [x, y]) := by rfl)
    (hs : swapsWithSole [.Tuple [.Name x px, .Name y py] kt pt] (.Tuple [a, b] k2 pt2) pos.line X.env = pure false := by rfl) :
    PS X (.Assign [.Tuple [.Name x px, .Name y py] kt pt] (.Tuple [a, b] k2 pt2) pos) (LS k W (sPar [i, j] m)) := (ps_par hc hN hi hj hij hx hy ha hw hs).cq fun _ _ _ h => ls_par h
theorem ls_par3 {i j l : Nat} {m : MA} (h : LS k W (sPar [i, j, l] m) E σ H) : tPar3 i j l (LA k W m) E σ H := by
  obtain ⟨A, F, C, s, h⟩ := h
  refine ⟨A, F, C, s, (AftS.bnd (rel := RepDs k) s h).mono fun d C1 A1 H1 vs p st r h1 => ?_⟩
  cases r with
  | nil => exact h1.elim
  | cons r1 t1 =>
    cases t1 with
    | nil => exact h1.elim
    | cons r2 t2 =>
      cases t2 with
      | nil => exact h1.elim
      | cons r3 t3 =>
        cases t3 with
        | nil => exact ⟨_, _, _, rfl, h1 A1 _ H1 Stp.refl ((((s.step p st).set r1).set r2).set r3)⟩
        | cons r4 t4 => exact h1.elim
theorem ds_par3 {i j l : Nat} {x y z : Str} {a b c : Expr} {px py pz pt pos : Pos} {kt k2 pt2} {m : MA} (hc : X.calm = true) (hN : X.N.Nodup) (hi : X.N[i]? = some x) (hj : X.N[j]? = some y) (hl : X.N[l]? = some z) (hij : i ≠ j) (hil : i ≠ l) (hjl : j ≠ l)
    (hx : X.env.scope.names.lookup x = some .local) (hy : X.env.scope.names.lookup y = some .local) (hz : X.env.scope.names.lookup z = some .local) (ha : PA X [a, b, c] (LA k W m))
    (hw : swappedStores [.Tuple [.Name x px, .Name y py, .Name z pz] kt pt] (.Tuple [a, b, c] k2 pt2) X.env = pure (some [x, y, z]) := by rfl)
    (hs : swapsWithSole [.Tuple [.Name x px, .Name y py, .Name z pz] kt pt] (.Tuple [a, b, c] k2 pt2) pos.line X.env = pure false := by rfl) :
    PS X (.Assign [.Tuple [.Name x px, .Name y py, .Name z pz] kt pt] (.Tuple [a, b, c] k2 pt2) pos) (LS k W (sPar [i, j, l] m)) := (ps_par3 hc hN hi hj hl hij hil hjl hx hy hz ha hw hs).cq fun _ _ _ h => ls_par3 h
end
/-! ### cells written -/
theorem wr_some {fl i : Nat} {c : Cell} {C C' : Store} (h : wr fl i c C = some C') : C' = C.set i (some c) ∧ (i < fl → cbC 0 c = true) := by
  unfold wr at h
  split at h
  · cases h
  · rename_i hn
    cases h
    refine ⟨rfl, fun hi => ?_⟩
    cases e : cbC 0 c with
    | true => rfl
    | false => exact absurd ⟨hi, e⟩ hn
section
variable {k : Cn} {A : Nat → Addr} {C C' : Store} {H : Hp} {fl i : Nat}
theorem write_L {c0 : Cell} {ds : List D} {vs : List V} (st : StOk k A C H) (hi : C[i]? = some (some c0)) (r : RepL k A C H vs ds) (h : wr fl i (.lst ds) C = some C') :
    Stp k fl A C H A C' (upd H (A i) (.lst vs)) ∧ StOk k A C' (upd H (A i) (.lst vs)) := by
  obtain ⟨rfl, hc⟩ := wr_some h
  have q : Kp A C H A (C.set i (some (.lst ds))) (upd H (A i) (.lst vs)) := kp_write hi
  exact ⟨q.stp fun f h1 h2 l => low_set hc h1 l, st.write hi ⟨vs, upd_same, r.kp q⟩⟩
theorem write_D {c0 : Cell} {ks : List (List Key)} {ds : List D} {kvs : List (List Key × V)} (st : StOk k A C H) (hi : C[i]? = some (some c0)) (hk : kvs.map (·.1) = ks) (r : RepL k A C H (kvs.map (·.2)) ds) (h : wr fl i (.dT ks ds) C = some C') :
    Stp k fl A C H A C' (upd H (A i) (.dT kvs)) ∧ StOk k A C' (upd H (A i) (.dT kvs)) := by
  obtain ⟨rfl, hc⟩ := wr_some h
  have q : Kp A C H A (C.set i (some (.dT ks ds))) (upd H (A i) (.dT kvs)) := kp_write hi
  exact ⟨q.stp fun f h1 h2 l => low_set hc h1 l, st.write hi ⟨kvs, upd_same, hk, r.kp q⟩⟩
end
section
variable {k : Cn} {A : Nat → Addr} {C : Store} {H : Hp} {v : V} {d : D} {i : Nat}
theorem cL_at {ds : List D} (st : StOk k A C H) (r : Rep k A C H v d) (e : cL d C = some (i, ds)) : d = .cell i ∧ v = .ref (A i) ∧ C[i]? = some (some (.lst ds)) ∧ ∃ vs, H (A i) = some (.lst vs) ∧ RepL k A C H vs ds := by
  cases r with
  | cell hi =>
    simp only [cL] at e
    split at e
    · rename_i xs ec
      cases e
      exact ⟨rfl, rfl, ec, st.at_ i _ ec⟩
    · cases e
  | _ => cases e
theorem cD_at {ks : List (List Key)} {ds : List D} (st : StOk k A C H) (r : Rep k A C H v d) (e : cD d C = some (i, ks, ds)) : d = .cell i ∧ v = .ref (A i) ∧ C[i]? = some (some (.dT ks ds)) ∧ ∃ kvs : List (List Key × V), H (A i) = some (.dT kvs) ∧ kvs.map (·.1) = ks ∧ RepL k A C H (kvs.map (·.2)) ds := by
  cases r with
  | cell hi =>
    simp only [cD] at e
    split at e
    · rename_i xs ec
      cases e
      exact ⟨rfl, rfl, ec, st.at_ i _ ec⟩
    · cases e
  | _ => cases e
end
section
variable {X : Cx} {k : Cn} {W : WX} {E : Ends} {σ : L2.St} {H : Hp}
theorem ls_setL {me mo mi : ME} (h : LS k W (sSetL me mo mi) E σ H) : tAsg (LE k W me) (gSub (LE k W mo) (LE k W mi) rSetL) E σ H := by
  obtain ⟨A, F, C, s, h⟩ := h
  refine ⟨A, F, C, s, (AftS.bnd (rel := RepD k) s h).mono fun dv C1 A1 H1 v p1 st1 rv h1 => ?_⟩
  have s1 := s.step p1 st1
  refine ⟨A1, F, C1, s1, (AftS.bnd (rel := RepD k) s1 h1).mono fun dO C2 A2 H2 o p2 st2 ro h2 => ?_⟩
  have s2 := s1.step p2 st2
  refine ⟨A2, F, C2, s2, (AftS.bnd (rel := RepD k) s2 h2).mono fun dx C3 A3 H3 x p3 st3 rx h3 => ?_⟩
  have s3 := s2.step p3 st3
  cases rx with
  | int n =>
    cases ec : cL dO C3 with
    | none => simp only [ec] at h3; exact h3.elim
    | some q =>
      obtain ⟨i, ds⟩ := q
      simp only [ec] at h3
      obtain ⟨rfl, rfl, hi, vs, hv, rvs⟩ := cL_at st3 (p3.rep _ _ ro) ec
      cases ej : ixN ds.length n with
      | none => simp only [ej] at h3; exact h3.elim
      | some j =>
        simp only [ej] at h3
        cases ew : wr F.fl i (.lst (ds.set j dv)) C3 with
        | none => simp only [ew] at h3; exact h3.elim
        | some C4 =>
          simp only [ew] at h3
          obtain ⟨q1, q2⟩ := write_L st3 hi (rvs.set (p3.rep _ _ (p2.rep _ _ rv)) j) ew
          exact ⟨A3 i, vs, n, j, rfl, rfl, hv, by rw [rvs.length]; exact ej, h3 A3 σ _ q1 (s3.step q1 q2)⟩
  | _ => exact h3.elim
theorem ls_put {me mo mi : ME} (h : LS k W (sPut me mo mi) E σ H) : sDPut (LE k W mo) (LE k W mi) (LE k W me) E σ H := by
  obtain ⟨A, F, C, s, h⟩ := h
  refine ⟨A, F, C, s, (AftS.bnd (rel := RepD k) s h).mono fun dv C1 A1 H1 v p1 st1 rv h1 => ?_⟩
  have s1 := s.step p1 st1
  refine ⟨A1, F, C1, s1, (AftS.bnd (rel := RepD k) s1 h1).mono fun dO C2 A2 H2 o p2 st2 ro h2 => ?_⟩
  have s2 := s1.step p2 st2
  refine ⟨A2, F, C2, s2, (AftS.bnd (rel := RepD k) s2 h2).mono fun dx C3 A3 H3 x p3 st3 rx h3 => ?_⟩
  have s3 := s2.step p3 st3
  cases dx with
  | tup ds =>
    cases ec : cD dO C3 with
    | none => simp only [ec] at h3; exact h3.elim
    | some q =>
      obtain ⟨i, ks, vs⟩ := q
      simp only [ec] at h3
      obtain ⟨rfl, rfl, hi, kvs, hv, hk, rvs⟩ := cD_at st3 (p3.rep _ _ ro) ec
      cases ej : keyL ds with
      | none => simp only [ej] at h3; exact h3.elim
      | some key =>
        simp only [ej] at h3
        split at h3
        · rename_i hz
          cases ew : wr F.fl i (.dT (putT ks vs key dv).1 (putT ks vs key dv).2) C3 with
          | none => simp only [ew] at h3; exact h3.elim
          | some C4 =>
            simp only [ew] at h3
            obtain ⟨b, rfl, hb⟩ := key_at rx ej
            subst hk
            have hz' : kvs.length < sizeLine := by
              have := szN_le hz
              rw [List.length_map] at this
              omega
            obtain ⟨k1, k2⟩ := putK_rep key (p3.rep _ _ (p2.rep _ _ rv)) rvs
            obtain ⟨q1, q2⟩ := write_D st3 hi k1 k2 ew
            exact ⟨A3 i, _, rfl, DPut.t hv hb hz', h3 A3 σ _ q1 (s3.step q1 q2)⟩
        · exact h3.elim
  | _ => exact h3.elim
theorem ds_setL {o i e : Expr} {pos pos' : Pos} {me mo mi : ME} (he : PE X e (LE k W me)) (hg : PG X (.Subscript o i pos') (gSub (LE k W mo) (LE k W mi) rSetL))
    (hs : swapsWithSole [.Subscript o i pos'] e pos.line X.env = pure false := by rfl) (hw : swappedStores [.Subscript o i pos'] e X.env = pure none := by rfl) (h1 : (assignEach [.Subscript o i pos'] X.env).map (·.2) = [assign (.Subscript o i pos') X.env] := by rfl) :
    PS X (.Assign [.Subscript o i pos'] e pos) (LS k W (sSetL me mo mi)) := (ps_asg he hg hs hw h1).cq fun _ _ _ h => ls_setL h
theorem ds_put {o i e : Expr} {pos pos' : Pos} {me mo mi : ME} (hu : X.A.units + 1 < cLine) (he : PE X e (LE k W me)) (ho : PE X o (LE k W mo)) (hi : PE X i (LE k W mi)) (hs : swapsWith e (some (.Subscript o i pos')) pos.line X.env = pure false := by rfl) :
    PS X (.Assign [.Subscript o i pos'] e pos) (LS k W (sPut me mo mi)) := (ps_dput hu ho hi he hs).cq fun _ _ _ h => ls_put h
end
/-! ### list methods that write -/
def mAppend (mo me : ME) : ME := fun F C => bnd (mo F C) fun o C1 => if (vL o C1).isSome = true then bnd (me F C1) fun v C2 => match cL o C2 with
    | some (i, ds) => if szN (ds.length + 1) = true then match wr F.fl i (.lst (ds ++ [v])) C2 with
      | some C3 => .ok .non C3
      | none => .stuck
      else .stuck
    | none => .stuck
  else .stuck
section
variable {X : Cx} {k : Cn} {W : WX} {σ : L2.St} {H : Hp} {Q : VK}
theorem tyL {A : Nat → Addr} {C : Store} {v : V} {d : D} (st : StOk k A C H) (r : Rep k A C H v d) (h : (vL d C).isSome = true) : tyV k.K "list" v H := by
  obtain ⟨xs, e⟩ := Option.isSome_iff_exists.mp h
  obtain ⟨a, vs, rfl, ha, _⟩ := vL_at st r e
  exact Or.inl ⟨rfl, vs, .inl (.inl ha)⟩
theorem le_append {mo me : ME} (h : LE k W (mAppend mo me) σ H Q) : tBM k.K "list" rAppend (LE k W mo) (tCons (LE k W me) tNil) σ H Q := by
  obtain ⟨A, F, C, s, h⟩ := h
  refine ⟨A, F, C, s, (Aft.bnd (rel := RepD k) h).mono fun dO C1 A1 H1 o p1 st1 ro h1 => ?_⟩
  have s1 := s.step p1 st1
  split at h1
  · rename_i hs
    refine ⟨tyL st1 ro hs, A1, F, C1, s1, (Aft.bnd (rel := RepD k) h1).mono fun dv C2 A2 H2 v p2 st2 rv h2 => ?_⟩
    cases ec : cL dO C2 with
    | none => simp only [ec] at h2; exact h2.elim
    | some q =>
      obtain ⟨i, ds⟩ := q
      simp only [ec] at h2
      obtain ⟨rfl, rfl, hi, vs, hv, rvs⟩ := cL_at st2 (p2.rep _ _ ro) ec
      split at h2
      · rename_i hz
        cases ew : wr F.fl i (.lst (ds ++ [dv])) C2 with
        | none => simp only [ew] at h2; exact h2.elim
        | some C3 =>
          simp only [ew] at h2
          obtain ⟨q1, q2⟩ := write_L st2 hi (rvs.append (.cons rv .nil)) ew
          exact ⟨A2 i, vs, v, rfl, rfl, hv, by have := szN_le hz; rw [rvs.length]; omega, h2 A2 _ .non q1 q2 .non⟩
      · exact h2.elim
  · exact h1.elim
variable {o e e2 : Expr} {apos cpos : Pos} {mo me mi : ME}
theorem de_append (hK : X.K = k.K := by rfl) (ho : PE X o (LE k W mo)) (he : PE X e (LE k W me)) (hs : starEach [e] X.env = (false, eval e X.env) :: starEach [] X.env := by rfl) (hbase : attributeBase o "append" X.env (eval o X.env) = eval o X.env := by rfl)
    (hfew : ((backTo cpos (starEach [e] X.env)).all (fun x => !x.1) && (backToKw cpos (keywordEach [] X.env)).all (fun x => x.1.isSome) && decide ([e].length + ([] : List Keyword).length + (if ([] : List Keyword).isEmpty then 0 else 1) < 30)) = true := by rfl)
    (hline : (apos.endLine == cpos.line) = true := by rfl) (hplain : (backTo cpos (starEach [] X.env)).any (·.1) = false := by rfl) : PE X (.Call (.Attribute o "append" apos) [e] [] cpos) (LE k W (mAppend mo me)) :=
  (pe_bm PySem.F.plainAttrs_list PySem.F.slot_list_append PySem.F.type_list_append mt_append ho (pa_cons he pa_nil hs) hbase hfew hline hs hplain).cq fun _ _ _ h => by
    rw [hK]
    exact le_append h
end
end CT
set_option maxHeartbeats 4000000
/-! DL6: targets, loops, comprehensions over data. -/
namespace CT
open PySem L2
/-! ### targets of names -/
def Tgt.T (K : PySem.W.Frag) : Tgt → TG
  | .nm i => gName i
  | .tp is => gTup K is.length (gsN is)
def Tgt.slots : Tgt → List Nat
  | .nm i => [i]
  | .tp is => is
theorem wipe_get {σ : L2.St} {j : Nat} : ∀ {vs : List Nat}, (wipe σ vs)[j]? = if j ∈ vs then (if j < σ.length then some none else none) else σ[j]?
  | [] => by simp [wipe]
  | v :: vs => by
    unfold wipe
    have ih := wipe_get (σ := σ) (j := j) (vs := vs)
    by_cases e : v = j
    · subst e
      by_cases hl : v < σ.length
      · rw [List.getElem?_set_self (by rw [wipe_length]; exact hl), if_pos (by simp), if_pos hl]
      · rw [List.getElem?_eq_none (by rw [List.length_set, wipe_length]; omega), if_pos (by simp), if_neg hl]
    · rw [List.getElem?_set_ne e, ih]
      by_cases hj : j ∈ vs
      · rw [if_pos hj, if_pos (List.mem_cons_of_mem _ hj)]
      · rw [if_neg hj, if_neg (by simp; exact ⟨fun z => e z.symm, hj⟩)]
theorem wipe_set {σ : L2.St} {i : Nat} {x : Option V} {vs : List Nat} (h : i ∈ vs) : wipe (σ.set i x) vs = wipe σ vs := by
  apply List.ext_getElem?
  intro j
  rw [wipe_get, wipe_get, List.length_set]
  by_cases hj : j ∈ vs
  · rw [if_pos hj, if_pos hj]
  · rw [if_neg hj, if_neg hj, List.getElem?_set_ne (fun (e : i = j) => hj (by rw [← e]; exact h))]
theorem wipe_wipe {σ : L2.St} {vs : List Nat} : wipe (wipe σ vs) vs = wipe σ vs := by
  apply List.ext_getElem?
  intro j
  rw [wipe_get, wipe_length]
  by_cases hj : j ∈ vs
  · rw [if_pos hj, wipe_get, if_pos hj]
  · rw [if_neg hj]
section
variable {k : Cn} {A : Nat → Addr} {F : Fr} {C : Store} {σ : L2.St} {H : Hp} {fl : Nat} {sl : List (Option D)}
theorem SR.wipe (s : SR k A ⟨fl, sl⟩ C σ H) : ∀ vs : List Nat, SR k A ⟨fl, wipeD sl vs⟩ C (L2.wipe σ vs) H
  | [] => s
  | v :: vs => (SR.wipe s vs).unset
theorem gsN_of2 {Q : L2.St → Hp → Prop} {vs0 : List Nat} : ∀ {is : List Nat} {vs : List V} {ds : List D} {sl sl' : List (Option D)} {σ : L2.St}, SR k A ⟨fl, sl⟩ C σ H → RepL k A C H vs ds → setAll is ds sl = some sl' →
    (∀ σ', SR k A ⟨fl, sl'⟩ C σ' H → ((∀ i ∈ is, i ∈ vs0) → L2.wipe σ' vs0 = L2.wipe σ vs0) → Q σ' H) → gsN is vs σ H Q
  | [], _, _, _, _, _, s, .nil, e, q => by
    cases e
    exact ⟨rfl, q _ s fun _ => rfl⟩
  | i :: is, _, _, _, _, _, s, .cons r t, e, q => by
    refine ⟨_, _, rfl, gsN_of2 (vs0 := vs0) (is := is) (s.set (i := i) r) t e fun σ' s' w => q σ' s' fun hi => ?_⟩
    rw [w fun j hj => hi j (List.mem_cons_of_mem _ hj)]
    exact wipe_set (hi i (List.mem_cons_self ..))
  | [], _, _, _, _, _, s, .cons r t, e, q => by cases e
  | i :: is, _, _, _, _, _, s, .nil, e, q => by cases e
theorem Tgt.of {t : Tgt} {v : V} {d : D} {sl' : List (Option D)} {Q : L2.St → Hp → Prop} {vs0 : List Nat} (s : SR k A ⟨fl, sl⟩ C σ H) (r : Rep k A C H v d) (e : t.M d sl = some sl')
    (q : ∀ σ', SR k A ⟨fl, sl'⟩ C σ' H → ((∀ i ∈ t.slots, i ∈ vs0) → L2.wipe σ' vs0 = L2.wipe σ vs0) → Q σ' H) : t.T k.K v σ H Q := by
  cases t with
  | nm i =>
    cases e
    exact q _ (s.set r) fun hi => wipe_set (hi i (by simp [Tgt.slots]))
  | tp is =>
    simp only [Tgt.M, gT] at e
    cases ev : vT d with
    | none => rw [ev] at e; cases e
    | some ds =>
      rw [ev] at e
      obtain ⟨a, vs, rfl, hs, rl⟩ := vT_at r ev
      exact ⟨a, vs, rfl, hs, by rw [rl.length, setAll_len e], gsN_of2 (vs0 := vs0) s rl e q⟩
end
section
variable {X : Cx} {k : Cn} {W : WX} {E : Ends} {σ : L2.St} {H : Hp}
theorem tg_nm {i : Nat} {x : Str} {pos : Pos} (hN : X.N.Nodup) (hi : X.N[i]? = some x) (hx : Loc X.env.scope x) (hf : X.fn x = true ∨ X.env.scope.names.lookup x = some .local := by first | exact .inl rfl | exact .inr rfl | assumption) : PG X (.Name x pos) (Tgt.T k.K (.nm i)) := pg_name hN hi hx hf
theorem tg_tp {es : List Expr} {kk : Nat} {pos : Pos} (is : List Nat) (hK : X.K = k.K) (hc : X.calm = true) (h : PGs X es (gsN is)) (hn : (assignEach es X.env).length = is.length := by rfl) (hst : (assignEach es X.env).findIdx? (·.1) = none := by rfl) :
    PG X (.Tuple es kk pos) (Tgt.T k.K (.tp is)) := by
  have h' := pg_tup (k := kk) (pos := pos) hc h hn hst
  rw [hK] at h'
  exact h'
theorem ls_asg2 {m : ME} {t : Tgt} (h : LS k W (sAsg m t.M) E σ H) : tAsg (LE k W m) (t.T k.K) E σ H := by
  obtain ⟨A, F, C, s, h⟩ := h
  refine ⟨A, F, C, s, (AftS.bnd (rel := RepD k) s h).mono fun d C1 A1 H1 v p st r h1 => ?_⟩
  cases e : t.M d F.sl with
  | none => rw [e] at h1; exact h1.elim
  | some sl =>
    rw [e] at h1
    exact Tgt.of (vs0 := []) (s.step p st) r e fun σ' s' _ => h1 A1 σ' H1 Stp.refl s'
theorem ds_asgT {tg e : Expr} {pos : Pos} {m : ME} {t : Tgt} (he : PE X e (LE k W m)) (hg : PG X tg (t.T k.K)) (hs : swapsWithSole [tg] e pos.line X.env = pure false := by rfl) (hw : swappedStores [tg] e X.env = pure none := by rfl)
    (h1 : (assignEach [tg] X.env).map (·.2) = [assign tg X.env] := by rfl) : PS X (.Assign [tg] e pos) (LS k W (sAsg m t.M)) := (ps_asg he hg hs hw h1).cq fun _ _ _ h => ls_asg2 h
end
/-! ### what is walked -/
def ItOk (k : Cn) (fl : Nat) (J : It) (it : ItD) (A : Nat → Addr) (C : Store) (H : Hp) : Prop := ∀ A' C' H', Stp k fl A C H A' C' H' → StOk k A' C' H' →
  (∀ j d, j < it.n → it.item j C' = some d → J.go j H' ∧ ∀ x H'', J.yld j H' x H'' → ∃ A'', Stp k fl A' C' H' A'' C' H'' ∧ StOk k A'' C' H'' ∧ Rep k A'' C' H'' x d) ∧ (it.fin C' = true → J.stop it.n H')
def LI (k : Cn) (W : WX) (m : MI) : TI := fun σ H Rr => ∃ A F C, SR k A F C σ H ∧ Aft k F.fl A C H (fun A C H (J : It) (it : ItD) => ItOk k F.fl J it A C H) (m F C) (fun _ _ _ H' J => Rr J H') (fun c d H' => W c d σ H')
/-! ### for -/
section
variable {X : Cx} {k : Cn} {W : WX} {E : Ends} {σ : L2.St} {H : Hp}
theorem ls_for {mi : MI} {t : Tgt} {body : MS} (h : LS k W (sFor mi t.M body) E σ H) : tFor (LI k W mi) (t.T k.K) (LS k W body) E σ H := by
  obtain ⟨A, F, C, s, h⟩ := h
  refine ⟨A, F, C, s, (AftS.bnd (rel := fun A C H (J : It) (it : ItD) => ItOk k F.fl J it A C H) s h).mono fun it C1 A1 H1 J p1 st1 ok h1 => ?_⟩
  refine ⟨fun i m σ' H' => ∃ A' C' sl, m = it.n - i ∧ i ≤ it.n ∧ Stp k F.fl A1 C1 H1 A' C' H' ∧ SR k A' ⟨F.fl, sl⟩ C' σ' H' ∧ AftS k W F.fl A' C' H' (loopN it t.M body F.fl (it.n - i) i sl C') E,
    ⟨it.n, A1, C1, F.sl, rfl, Nat.zero_le _, Stp.refl, s.step p1 st1, h1⟩, ?_⟩
  rintro i m σ' H' ⟨A', C', sl, rfl, hi, p, s', h'⟩
  obtain ⟨o1, o2⟩ := ok A' C' H' p s'.st
  cases er : it.n - i with
  | zero =>
    rw [er] at h'
    unfold loopN at h'
    have e : i = it.n := by omega
    split at h'
    · rename_i hf
      subst e
      exact .inl ⟨o2 hf, h' A' σ' H' Stp.refl s'⟩
    · exact h'.elim
  | succ r =>
    rw [er] at h'
    unfold loopN at h'
    have hlt : i < it.n := by omega
    cases ei : it.item i C' with
    | none => simp only [ei] at h'; exact h'.elim
    | some d =>
      simp only [ei] at h'
      obtain ⟨g1, g2⟩ := o1 i d hlt ei
      cases eg : t.M d sl with
      | none => simp only [eg] at h'; exact h'.elim
      | some sl1 =>
        simp only [eg] at h'
        refine .inr ⟨g1, fun σ2 H2 => ∃ A2 C2 sl2, i + 1 ≤ it.n ∧ Stp k F.fl A1 C1 H1 A2 C2 H2 ∧ SR k A2 ⟨F.fl, sl2⟩ C2 σ2 H2 ∧ AftS k W F.fl A2 C2 H2 (loopN it t.M body F.fl (it.n - (i + 1)) (i + 1) sl2 C2) E,
          fun σ2 H2 ⟨A2, C2, sl2, a, b, c, d⟩ => ⟨it.n - (i + 1), by omega, A2, C2, sl2, rfl, a, b, c, d⟩, fun x H'' y => ?_⟩
        obtain ⟨A'', p2, st2, rx⟩ := g2 x H'' y
        have s2 := s'.step p2 st2
        refine Tgt.of (vs0 := []) s2 rx eg fun σ2 s3 _ => ⟨A'', ⟨F.fl, sl1⟩, C', s3, ?_⟩
        have hr : it.n - (i + 1) = r := by omega
        cases eb : body ⟨F.fl, sl1⟩ C' with
        | nx sl2 C2 =>
          simp only [eb] at h'
          intro A3 σ3 H3 p3 s4
          have pp := p2.trans p3
          exact ⟨A3, C2, sl2, by omega, p.trans pp, s4, by rw [hr]; exact h'.shift pp⟩
        | ct sl2 C2 =>
          simp only [eb] at h'
          intro A3 σ3 H3 p3 s4
          have pp := p2.trans p3
          exact ⟨A3, C2, sl2, by omega, p.trans pp, s4, by rw [hr]; exact h'.shift pp⟩
        | bk sl2 C2 =>
          simp only [eb] at h'
          exact fun A3 σ3 H3 p3 s4 => h' A3 σ3 H3 (p2.trans p3) s4
        | rt d C2 =>
          simp only [eb] at h'
          exact fun A3 H3 v p3 st r => h' A3 H3 v (p2.trans p3) st r
        | xc e sl2 C2 =>
          simp only [eb] at h'
          exact fun A3 σ3 H3 dd vs p3 s4 x l r => h' A3 σ3 H3 dd vs (p2.trans p3) s4 x l r
        | stuck =>
          simp only [eb] at h'
          exact h'.elim
theorem _root_.L2.PI.cq {X : Cx} {tg e : Expr} {t t' : TI} (h : PI X tg e t) (c : ∀ σ H R, t' σ H R → t σ H R) : PI X tg e t' := ⟨fun pins s σ H R I q => h.run pins s σ H R I (c σ H R q)⟩
end
/-! ### list comprehensions -/
abbrev WF : WX := fun _ _ _ _ => False
section
variable {X : Cx} {k : Cn} {W : WX} {σ : L2.St} {H : Hp} {Q : VK}
/-- the list cell becomes plain data -/
theorem fz_end {fl n : Nat} {A A' : Nat → Addr} {C C' : Store} {H H' : Hp} {p : Addr} {acc : List D} (hn : n = C.length) (st0 : StOk k A C H) (st : StOk k A' C' H') (s : Stp k fl A C H A' C' H') (hf : fl ≤ n) (hl : n ≤ C'.length) (low : LowC n C') (ha : A' n = p) (hc : C'[n]? = some (some (.lst acc))) (hcb : cbL n acc = true) :
    Stp k fl A C H A' (C'.take n) H' ∧ StOk k A' (C'.take n) H' ∧ Rep k A' (C'.take n) H' (.ref p) (.lst acc) := by
  obtain ⟨vs, hv, rv⟩ := st.at_ n _ hc
  have tl : (C'.take n).length = n := by rw [List.length_take]; omega
  refine ⟨⟨fun v d r => (s.rep v d r).cut hl (by rw [hn]; exact r.cb), by rw [tl, hn]; exact Nat.le_refl _, fun f h1 h2 l => low_take (s.low f h1 h2 l)⟩, st.take hl low, ?_⟩
  rw [← ha]
  refine .lst (fun l => ?_) hv (rv.cut hl hcb)
  obtain ⟨i, c, e, z⟩ := l
  by_cases hi : i < n
  · rw [List.getElem?_take_of_lt hi] at e
    exact absurd (st.inj i n _ _ e hc z) (Nat.ne_of_lt hi)
  · rw [List.getElem?_eq_none (by rw [tl]; omega)] at e
    cases e
/-- the new list: at D, the cell n -/
theorem cell_at {A A' : Nat → Addr} {C C' : Store} {H H' : Hp} {fl n : Nat} {p : Addr} (s : Stp k fl A C H A' C' H') (h : A n = p) (hn : n < C.length) : A' n = p ∧ n < C'.length := by
  have r : Rep k A C H (.ref (A n)) (.cell n) := .cell hn
  have r' := s.rep _ _ r
  rw [h] at r'
  have inv : ∀ {v : V} {d : D}, Rep k A' C' H' v d → v = .ref p → d = .cell n → A' n = p ∧ n < C'.length := by
    intro v d r hv hd
    cases r with
    | cell hi => cases hd; cases hv; exact ⟨rfl, hi⟩
    | _ => cases hd
  exact inv r' rfl rfl
theorem push_L {A : Nat → Addr} {C : Store} {H : Hp} {fl n : Nat} {p : Addr} {acc : List D} {y : D} {v : V} {ws : List V} (hf : fl ≤ n) (st : StOk k A C H) (ha : A n = p) (hc : C[n]? = some (some (.lst acc))) (hw : H p = some (.lst ws)) (r : Rep k A C H v y) :
    Stp k fl A C H A (C.set n (some (.lst (acc ++ [y])))) (upd H p (.lst (ws ++ [v]))) ∧ StOk k A (C.set n (some (.lst (acc ++ [y])))) (upd H p (.lst (ws ++ [v]))) := by
  obtain ⟨vs, hv, rv⟩ := st.at_ n _ hc
  rw [ha, hw] at hv
  cases hv
  have q : Kp A C H A (C.set n (some (.lst (acc ++ [y])))) (upd H (A n) (.lst (ws ++ [v]))) := kp_write hc
  rw [← ha]
  exact ⟨q.stp fun f h1 h2 l => low_set (fl := fl) (fun hi => absurd hi (Nat.not_lt.mpr hf)) h1 l, st.write hc ⟨_, upd_same, (rv.append (.cons r .nil)).kp q⟩⟩
theorem bn0_inv {fl : Nat} {A : Nat → Addr} {C : Store} {H : Hp} {m : R Unit} {f : Unit → Store → R D} {Q : D → Store → (Nat → Addr) → Hp → V → Prop} {W' : XK} (h : Aft k fl A C H (RepD k) (CT.bn0 m f) Q W') : ∃ C3, m = .ok () C3 ∧ Aft k fl A C H (RepD k) (f () C3) Q W' := by
  cases m with
  | ok d C' => exact ⟨C', rfl, h⟩
  | exc e C' => exact h.elim
  | stuck => exact h.elim
theorem Stp.less {fl n : Nat} {A A' : Nat → Addr} {C C' : Store} {H H' : Hp} (p : Stp k n A C H A' C' H') (h : fl ≤ n) : Stp k fl A C H A' C' H' := ⟨p.rep, p.len, fun f hf => p.low f (Nat.le_trans hf h)⟩
theorem SR.re {fl n : Nat} {A A' : Nat → Addr} {F : Fr} {C C' : Store} {H H' : Hp} (s : SR k A F C σ H) (p : Stp k fl A C H A' C' H') (st : StOk k A' C' H') (low : LowC n C') (hn : n ≤ C'.length) : SR k A' ⟨n, F.sl⟩ C' σ H' :=
  ⟨st, low, hn, s.len, fun i d e => let ⟨v, h1, h2⟩ := s.sl i d e; ⟨v, h1, p.rep v d h2⟩⟩
theorem le_lcEnd {own : Bool} {fl : Nat} {A A1 A' : Nat → Addr} {C C1 C' : Store} {H H1 H' : Hp} {Dl : Addr} {W' : XK} (hf : fl ≤ C1.length) (p : Stp k fl A C H A1 C1 H1) (st1 : StOk k A1 C1 H1) (p' : Stp k fl A1 C1 H1 A' C' H') (low : LowC C1.length C') (st' : StOk k A' C' H') (ha : A' C1.length = Dl) (hl : C1.length < C'.length)
    (h : Aft k fl A C H (RepD k) (lcEnd own C1.length C') (fun _ _ _ H' v => Q v H') W') : Q (.ref Dl) H' := by
  unfold lcEnd at h
  cases own with
  | true =>
    have r : Rep k A' C' H' (.ref (A' C1.length)) (.cell C1.length) := .cell hl
    rw [ha] at r
    exact h A' H' _ (p.trans p') st' r
  | false =>
    split at h
    · rename_i z; cases z
    · split at h
      · rename_i acc hc
        split at h
        · rename_i hcb
          obtain ⟨q1, q2, q3⟩ := fz_end (k := k) (fl := fl) rfl st1 st' p' hf (Nat.le_of_lt hl) low ha hc hcb
          exact h A' H' _ (p.trans q1) q2 q3
        · exact h.elim
      · exact h.elim
theorem le_lc {own : Bool} {mi : MI} {t : Tgt} {tt : MT} {te : ME} {vs : List Nat} (hv : ∀ i ∈ t.slots, i ∈ vs) (h : LE k W (mLc own mi t.M tt te vs) σ H Q) : tLc (LI k W mi) (t.T k.K) (LT k WF tt) (LE k WF te) vs σ H Q := by
  obtain ⟨A, F, C, s, h⟩ := h
  refine ⟨A, F, C, s, (Aft.bnd (rel := fun A C H (J : It) (it : ItD) => ItOk k F.fl J it A C H) h).mono fun it C1 A1 H1 J p1 st1 ok h1 => ?_⟩
  have s1 := s.step p1 st1
  intro Dl hD
  have q0 : Kp A1 C1 H1 (ext A1 C1.length Dl) (C1 ++ [some (.lst [])]) (upd H1 Dl (.lst [])) := kp_cell (k := k) st1 hD
  have p2 : Stp k C1.length A1 C1 H1 (ext A1 C1.length Dl) (C1 ++ [some (.lst [])]) (upd H1 Dl (.lst [])) := q0.stp fun f h1 h2 l => low_app h2 l
  have p2' : Stp k F.fl A1 C1 H1 (ext A1 C1.length Dl) (C1 ++ [some (.lst [])]) (upd H1 Dl (.lst [])) := ⟨p2.rep, p2.len, fun f hf => p2.low f (Nat.le_trans hf s1.fl)⟩
  have st2 : StOk k (ext A1 C1.length Dl) (C1 ++ [some (.lst [])]) (upd H1 Dl (.lst [])) := st1.cell hD ⟨[], upd_same, .nil⟩
  have n1 : C1.length < (C1 ++ [some (Cell.lst [])]).length := by simp
  have low1 : LowC C1.length (C1 ++ [some (Cell.lst [])]) := p2.low _ (Nat.le_refl _) (Nat.le_refl _) st1.low
  obtain ⟨C3, e3, h3⟩ := bn0_inv h1
  refine ⟨fun i m H' => ∃ A' C', m = it.n - i ∧ i ≤ it.n ∧ Stp k C1.length (ext A1 C1.length Dl) (C1 ++ [some (.lst [])]) (upd H1 Dl (.lst [])) A' C' H' ∧ StOk k A' C' H' ∧ lcN it t.M tt te C1.length (wipeD F.sl vs) (it.n - i) i C' = .ok () C3,
    ⟨it.n, _, _, rfl, Nat.zero_le _, Stp.refl, st2, e3⟩, ?_⟩
  rintro i m H' ⟨A', C', rfl, hi, p, st', h'⟩
  obtain ⟨ha', hl'⟩ := cell_at p (ext_at A1 C1.length Dl) n1
  have low' : LowC C1.length C' := p.low _ (Nat.le_refl _) (Nat.le_of_lt n1) low1
  have pF : Stp k F.fl (ext A1 C1.length Dl) (C1 ++ [some (.lst [])]) (upd H1 Dl (.lst [])) A' C' H' := p.less s1.fl
  obtain ⟨o1, o2⟩ := ok A' C' H' (p2'.trans pF) st'
  cases er : it.n - i with
  | zero =>
    rw [er] at h'
    unfold lcN at h'
    have e : i = it.n := by omega
    split at h'
    · rename_i hf
      cases h'
      subst e
      exact .inl ⟨o2 hf, le_lcEnd s1.fl Stp.refl st1 (p2'.trans pF) low' st' ha' hl' h3⟩
    · cases h'
  | succ r =>
    rw [er] at h'
    unfold lcN at h'
    have hlt : i < it.n := by omega
    have hr : it.n - (i + 1) = r := by omega
    cases ei : it.item i C' with
    | none => simp only [ei] at h'; cases h'
    | some d =>
      simp only [ei] at h'
      obtain ⟨g1, g2⟩ := o1 i d hlt ei
      cases eg : t.M d (wipeD F.sl vs) with
      | none => simp only [eg] at h'; cases h'
      | some sl1 =>
        simp only [eg] at h'
        refine .inr ⟨g1, fun H4 => ∃ A4 C4, Stp k C1.length (ext A1 C1.length Dl) (C1 ++ [some (.lst [])]) (upd H1 Dl (.lst [])) A4 C4 H4 ∧ StOk k A4 C4 H4 ∧ lcN it t.M tt te C1.length (wipeD F.sl vs) (it.n - (i + 1)) (i + 1) C4 = .ok () C3,
          fun H4 ⟨A4, C4, a, b, c⟩ => ⟨it.n - (i + 1), by omega, A4, C4, rfl, by omega, a, b, c⟩, fun x H'' y => ?_⟩
        obtain ⟨A'', py, sty, rx⟩ := g2 x H'' y
        have py' : Stp k C1.length A' C' H' A'' C' H'' := ⟨py.rep, py.len, fun f _ _ h => h⟩
        have sr : SR k A'' ⟨C1.length, wipeD F.sl vs⟩ C' (L2.wipe σ vs) H'' := ((s1.re (p2.trans (p.trans py')) sty low' (Nat.le_of_lt hl')).wipe vs)
        refine Tgt.of (vs0 := vs) sr rx eg fun σ2 s2 w2 => ⟨by rw [w2 hv, wipe_wipe], A'', ⟨C1.length, sl1⟩, C', s2, ?_⟩
        cases et : tt ⟨C1.length, sl1⟩ C' with
        | ok b C5 =>
          rw [et] at h'
          simp only [bn0_ok] at h'
          intro A5 H5 v5 p5 st5 e5
          have e5 : v5 = b := e5
          subst e5
          have s5 := s2.step p5 st5
          cases v5 with
          | true =>
            rw [if_pos rfl] at h'
            refine iteT ⟨A5, ⟨C1.length, sl1⟩, C5, s5, ?_⟩
            cases ee : te ⟨C1.length, sl1⟩ C5 with
            | ok yd C6 =>
              rw [ee] at h'
              simp only [bn0_ok] at h'
              intro A6 H6 v6 p6 st6 r6
              have pall := (p.trans py').trans (p5.trans p6)
              obtain ⟨ha6, hl6⟩ := cell_at pall (ext_at A1 C1.length Dl) n1
              split at h'
              · rename_i acc hc
                split at h'
                · rename_i hz
                  obtain ⟨ws, hw, rw6⟩ := st6.at_ _ _ hc
                  rw [ha6] at hw
                  obtain ⟨q1, q2⟩ := push_L (k := k) (fl := C1.length) (Nat.le_refl _) st6 ha6 hc hw r6
                  refine ⟨ws, hw, by have := szN_le hz; rw [rw6.length]; omega, A6, _, pall.trans q1, q2, ?_⟩
                  rw [hr]
                  exact h'
                · cases h'
              · cases h'
            | exc e C6 => rw [ee] at h'; cases h'
            | stuck => rw [ee] at h'; cases h'
          | false =>
            rw [if_neg (by decide)] at h'
            refine iteF ⟨A5, C5, (p.trans py').trans p5, st5, ?_⟩
            rw [hr]
            exact h'
        | exc e C5 => rw [et] at h'; cases h'
        | stuck => rw [et] at h'; cases h'
theorem de_lc {elt tg iter : Expr} {ifs : List Expr} {scope : Scope} {own : List (Str × Nat)} {pos : Pos} {mi : MI} {t : Tgt} {tt : MT} {te : ME} (ow : Bool) (hK : X.K = k.K) (hc : X.calm = true) (hN : X.N.Nodup) (hi : PI X tg iter (LI k W mi)) (ok : BlkOk X.N X.env.scope scope own) (hv : ∀ i ∈ t.slots, i ∈ own.map (·.2))
    (hg : ∀ (s : Shared) (H : Hp) (C : Addr) (cl : List (Str × Addr)) (fp : List Addr), PG (X.blk s H scope (compEnvC scope cl C X.env) fp) tg (t.T k.K)) (ht : ∀ (s : Shared) (H : Hp) (C : Addr) (cl : List (Str × Addr)) (fp : List Addr), PTs (X.blk s H scope (compEnvC scope cl C X.env) fp) ifs (LT k WF tt))
    (he : ∀ (s : Shared) (H : Hp) (C : Addr) (cl : List (Str × Addr)) (fp : List Addr), PE (X.blk s H scope (compEnvC scope cl C X.env) fp) elt (LE k WF te)) (hs : ∀ x, foldedSetIterable iter X.env x = pure x := by intro _; rfl) :
    PE X (.ListComp elt [⟨tg, iter, ifs, 0⟩] scope pos) (LE k W (mLc ow mi t.M tt te (own.map (·.2)))) := (pe_lc hc hN hi ok hg ht he hs).cq fun _ _ _ h => le_lc hv h
end
end CT
set_option maxHeartbeats 4000000
/-! DL7: what is walked; defs. -/
namespace CT
open PySem L2
section
variable {X : Cx} {k : Cn} {W : WX} {E : Ends} {σ : L2.St} {H : Hp}
theorem ds_for {tg iter : Expr} {body : List Stmt} {pos : Pos} {mi : MI} {t : Tgt} {mb : MS} (hp : PassesOwn (model X.prog X.w) X.A X.env X.xe) (hc : X.calm = true) (hi : PI X tg iter (LI k W mi)) (hg : PG X tg (t.T k.K)) (hb : PSs X body (LS k W mb))
    (hs : ∀ x, foldedSetIterable iter X.env x = pure x := by intro _; rfl) : PS X (.For tg iter body [] pos) (LS k W (sFor mi t.M mb)) := (ps_for hp hc hi hg hb hs).cq fun _ _ _ h => ls_for h
/-! ### lists and tuples -/
def iSeq (K : PySem.W.Frag) (tl : TE) : TI := fun σ H R => tl σ H fun x H1 => ∃ a, x = .ref a ∧ (((∃ xs, SqL K H1 a xs) ∧ R (Itl K a) H1) ∨ ((∃ xs, SqT K H1 a xs) ∧ R (Itt K a) H1))
theorem pi_seq {tg l : Expr} {tl : TE} (hl : PE X l tl) : PI X tg l (iSeq X.K tl) := by
  refine ⟨fun pins s σ H R I h => ?_⟩
  refine thn (hl.run pins s σ H _ I h) fun v s1 ⟨x, H1, I1, r1, q1⟩ => ?_
  obtain ⟨a, e, ⟨⟨xs, hq⟩, q⟩ | ⟨⟨xs, hq⟩, q⟩⟩ := q1
  · subst e
    cases r1
    obtain ⟨its, rv, p, hz⟩ := I1.list hq
    refine wpAny_pyIter_list p.isList ?_
    refine ⟨s1.heap.objs.size, [s1.heap.objs.size], _, _, H1, rfl, I1.kept (t' := s1.toks) fun b o e => Heap.get?_push_of_some _ e, turn_list a _, ⟨_, Heap.get?_push_size _ rfl, rfl, rfl⟩, fun b hb => ?_, q⟩
    have e : b = s1.heap.objs.size := by simpa using hb
    subst e
    exact I1.fpOk (Nat.le_refl _) (I1.hok.fresh (Nat.le_refl _))
  · subst e
    cases r1
    obtain ⟨its, rv, p, hz⟩ := I1.tuple hq
    refine wpAny_pyIter_tuple (show s1.heap.IsTuple a its.toArray from p) ?_
    refine ⟨s1.heap.objs.size, [s1.heap.objs.size], _, _, H1, rfl, I1.kept (t' := s1.toks) fun b o e => Heap.get?_push_of_some _ e, turn_tuple a _, ⟨_, Heap.get?_push_size _ rfl, rfl, rfl⟩, fun b hb => ?_, q⟩
    have e : b = s1.heap.objs.size := by simpa using hb
    subst e
    exact I1.fpOk (Nat.le_refl _) (I1.hok.fresh (Nat.le_refl _))
theorem itC_L {fl : Nat} {A : Nat → Addr} {C : Store} {a : Addr} {xs : List D} (r : Rep k A C H (.ref a) (.lst xs)) : ItOk k fl (Itl k.K a) (itC xs) A C H := fun A' C' H' p st' => by
  cases p.rep _ _ r with
  | lst l h rv =>
    have hl : SqL k.K H' a _ := .inl (.inl h)
    refine ⟨fun j y hj ey => ?_, fun _ => ⟨_, hl, by rw [rv.length]; exact Nat.le_refl _⟩⟩
    obtain ⟨v, hv, rv1⟩ := rv.get ey
    exact ⟨⟨_, v, hl, hv⟩, fun x H'' ⟨e1, e2⟩ => by
      subst e1
      cases (e2 _ hl).symm.trans hv
      exact ⟨A', Stp.refl, st', rv1⟩⟩
theorem itC_T {fl : Nat} {A : Nat → Addr} {C : Store} {v : V} {d : D} {xs : List D} (r : Rep k A C H v d) (e : vT d = some xs) : ∃ a, v = .ref a ∧ (∃ vs, SqT k.K H a vs) ∧ ItOk k fl (Itt k.K a) (itC xs) A C H := by
  obtain ⟨a, vs, rfl, hs, _⟩ := vT_at r e
  refine ⟨a, rfl, ⟨vs, hs⟩, fun A' C' H' p st' => ?_⟩
  obtain ⟨a', vs', ea, hl, rv⟩ := vT_at (p.rep _ _ r) e
  cases ea
  refine ⟨fun j y hj ey => ?_, fun _ => ⟨_, hl, by rw [rv.length]; exact Nat.le_refl _⟩⟩
  obtain ⟨v, hv, rv1⟩ := rv.get ey
  exact ⟨⟨_, v, hl, hv⟩, fun x H'' ⟨e1, e2⟩ => by
    subst e1
    cases (e2 _ hl).symm.trans hv
    exact ⟨A', Stp.refl, st', rv1⟩⟩
theorem itV_L {fl : Nat} {A : Nat → Addr} {C : Store} {a : Addr} {i n : Nat} (r : Rep k A C H (.ref a) (.cell i)) : ItOk k fl (Itl k.K a) (itV i n) A C H := fun A' C' H' p st' => by
  cases p.rep _ _ r with
  | cell hi =>
    refine ⟨fun j y hj ey => ?_, fun hf => ?_⟩
    · simp only [itV] at ey
      split at ey
      · rename_i ys ec
        split at ey
        · obtain ⟨vs, hv, rv⟩ := st'.at_ i _ ec
          have hl : SqL k.K H' (A' i) vs := .inl (.inl hv)
          obtain ⟨v, hw, rv1⟩ := rv.get ey
          exact ⟨⟨_, v, hl, hw⟩, fun x H'' ⟨e1, e2⟩ => by
            subst e1
            cases (e2 _ hl).symm.trans hw
            exact ⟨A', Stp.refl, st', rv1⟩⟩
        · cases ey
      · cases ey
    · simp only [itV] at hf
      split at hf
      · rename_i ys ec
        obtain ⟨vs, hv, rv⟩ := st'.at_ i _ ec
        have := of_decide_eq_true hf
        exact ⟨vs, .inl (.inl hv), by show vs.length ≤ n; rw [rv.length]; omega⟩
      · cases hf
theorem li_seq {m : ME} {R : It → Hp → Prop} (h : LI k W (mSeq m) σ H R) : iSeq k.K (LE k W m) σ H R := by
  obtain ⟨A, F, C, s, h⟩ := h
  refine ⟨A, F, C, s, (Aft.bnd (rel := RepD k) h).mono fun d C1 A1 H1 v p st r h1 => ?_⟩
  have tup : ∀ xs, vT d = some xs → itS d C1 = some (itC xs) → ∃ a, v = .ref a ∧ (((∃ xs, SqL k.K H1 a xs) ∧ R (Itl k.K a) H1) ∨ ((∃ xs, SqT k.K H1 a xs) ∧ R (Itt k.K a) H1)) := fun xs e ei => by
    rw [ei] at h1
    obtain ⟨a, rfl, hs, ok⟩ := itC_T (fl := F.fl) r e
    exact ⟨a, rfl, .inr ⟨hs, h1 A1 H1 _ Stp.refl st ok⟩⟩
  cases d with
  | tup xs => exact tup xs rfl rfl
  | kt xs => exact tup xs rfl rfl
  | lst xs =>
    cases r with
    | lst l hh rv => exact ⟨_, rfl, .inl ⟨⟨_, .inl (.inl hh)⟩, h1 A1 H1 _ Stp.refl st (itC_L (.lst l hh rv))⟩⟩
  | cell i =>
    cases r with
    | cell hi =>
      simp only [itS] at h1
      split at h1
      · rename_i it e
        split at e
        · rename_i ys ec
          cases e
          obtain ⟨vs, hv, rv⟩ := st.at_ i _ ec
          exact ⟨_, rfl, .inl ⟨⟨vs, .inl (.inl hv)⟩, h1 A1 H1 _ Stp.refl st (itV_L (.cell hi))⟩⟩
        · cases e
      · exact h1.elim
  | _ => exact h1.elim
theorem di_seq {tg l : Expr} {m : ME} (hK : X.K = k.K) (hl : PE X l (LE k W m)) : PI X tg l (LI k W (mSeq m)) := (pi_seq hl).cq fun _ _ _ h => by
  rw [hK]
  exact li_seq h
/-! ### ranges -/
theorem itR_ok {fl : Nat} {A : Nat → Addr} {C : Store} {lo : Int} {n : Nat} : ItOk k fl (Itr lo n) (itR lo n) A C H := fun A' C' H' p st' =>
  ⟨fun j y hj ey => ⟨hj, fun x H'' ⟨e1, e2⟩ => by
    subst e1
    subst e2
    cases ey
    exact ⟨A', Stp.refl, st', .int _⟩⟩, fun _ => Nat.le_refl _⟩
theorem li_rng1 {m : ME} {R : It → Hp → Prop} (h : LI k W (mRng1 m) σ H R) : iRng1 (tCons (LE k W m) tNil) σ H R := by
  obtain ⟨A, F, C, s, h⟩ := h
  refine ⟨A, F, C, s, (Aft.bnd (rel := RepD k) h).mono fun d C1 A1 H1 v p st r h1 => ?_⟩
  cases r with
  | int j =>
    simp only at h1
    split at h1
    · rename_i hb
      simp only [inR, Bool.and_eq_true, decide_eq_true_eq] at hb
      exact ⟨j, rfl, hb.1, hb.2, h1 A1 H1 _ Stp.refl st itR_ok⟩
    · exact h1.elim
  | _ => exact h1.elim
theorem li_rng2 {m m2 : ME} {R : It → Hp → Prop} (h : LI k W (mRng2 m m2) σ H R) : iRng2 (tCons (LE k W m) (tCons (LE k W m2) tNil)) σ H R := by
  obtain ⟨A, F, C, s, h⟩ := h
  refine ⟨A, F, C, s, (Aft.bnd (rel := RepD k) h).mono fun d C1 A1 H1 v p st r h1 => ?_⟩
  have s1 := s.step p st
  refine ⟨A1, F, C1, s1, (Aft.bnd (rel := RepD k) h1).mono fun e C2 A2 H2 v2 p2 st2 r2 h2 => ?_⟩
  cases r with
  | int i =>
    cases r2 with
    | int j =>
      simp only at h2
      split at h2
      · rename_i hb
        simp only [inR, Bool.and_eq_true, decide_eq_true_eq] at hb
        exact ⟨i, j, rfl, ⟨hb.1.1, hb.1.2, hb.2.1, hb.2.2⟩, h2 A2 H2 _ Stp.refl st2 itR_ok⟩
      · exact h2.elim
    | _ => exact h2.elim
  | _ =>
    cases r2 <;> exact h2.elim
theorem di_rng1 {tg a : Expr} {p pos : Pos} {m : ME} (hg : Gl X "range") (hm : X.mg "range" = none) (ha : PE X a (LE k W m)) (hs : starEach [a] X.env = [(false, eval a X.env)] := by rfl) : PI X tg (.Call (.Name "range" p) [a] [] pos) (LI k W (mRng1 m)) :=
  (pi_range1 hg hm (pa_cons ha pa_nil hs) hs).cq fun _ _ _ h => li_rng1 h
theorem di_rng2 {tg a b : Expr} {p pos : Pos} {m m2 : ME} (hg : Gl X "range") (hm : X.mg "range" = none) (ha : PE X a (LE k W m)) (hb : PE X b (LE k W m2)) (hs : starEach [a, b] X.env = [(false, eval a X.env), (false, eval b X.env)] := by rfl) (hs2 : starEach [b] X.env = [(false, eval b X.env)] := by rfl) :
    PI X tg (.Call (.Name "range" p) [a, b] [] pos) (LI k W (mRng2 m m2)) :=
  (pi_range2 hg hm (pa_cons ha (pa_cons hb pa_nil hs2) (by rw [hs, hs2])) hs hs2).cq fun _ _ _ h => li_rng2 h
end
/-! ### defs -/
def mDef (np ns : Nat) (body : MS) : MF := fun ds C => if ds.length = np then (match body ⟨C.length, ds.map some ++ List.replicate (ns - np) none⟩ C with
    | .nx _ C' => fin C.length .non C'
    | .rt d C' => fin C.length d C'
    | .xc e _ C' => if cbL C.length e.fs = true then .exc e (C'.take C.length) else .stuck
    | _ => .stuck) else .stuck
/-- the promise of a def that computes m -/
def SpD (k : Cn) (np : Nat) (m : MF) : Sp := fun vs H Q E => vs.length = np ∧ ∃ A C ds, StOk k A C H ∧ RepL k A C H vs ds ∧ Aft k C.length A C H (RepD k) (m ds C) (fun _ _ _ H' v => Q v H') E
section
variable {k : Cn}
theorem cut_stp {n : Nat} {A A' : Nat → Addr} {C C' : Store} {H H' : Hp} (hn : n = C.length) (st0 : StOk k A C H) (st : StOk k A' C' H') (s : Stp k n A C H A' C' H') :
    Stp k n A C H A' (C'.take n) H' ∧ StOk k A' (C'.take n) H' ∧ n ≤ C'.length ∧ (C'.take n).length = n := by
  have hl : n ≤ C'.length := by rw [hn]; exact s.len
  have tl : (C'.take n).length = n := by rw [List.length_take]; omega
  have low : LowC n C' := s.low n (Nat.le_refl _) (by omega) (by rw [hn]; exact st0.low)
  exact ⟨⟨fun v d r => (s.rep v d r).cut hl (by rw [hn]; exact r.cb), by rw [tl, hn]; exact Nat.le_refl _, fun f h1 h2 l => low_take (s.low f h1 h2 l)⟩, st.take hl low, hl, tl⟩
theorem fz_rep {n : Nat} {A : Nat → Addr} {C : Store} {H : Hp} {v : V} {d : D} (st : StOk k A C H) (hl : n ≤ C.length) (r : Rep k A C H v d) (h : cb n (fz n d C) = true) : Rep k A (C.take n) H v (fz n d C) := by
  have tl : (C.take n).length = n := by rw [List.length_take]; omega
  have nl : ∀ i c, ¬ i < n → C[i]? = some (some c) → ¬ Live A (C.take n) (A i) := fun i c hi e l => by
    obtain ⟨j, c', e', z⟩ := l
    by_cases hj : j < n
    · rw [List.getElem?_take_of_lt hj] at e'
      have := st.inj j i _ _ e' e z
      omega
    · rw [List.getElem?_eq_none (by rw [tl]; omega)] at e'
      cases e'
  cases d with
  | cell i =>
    by_cases hi : i < n
    · have e : fz n (.cell i) C = .cell i := by simp [fz, hi]
      rw [e] at h ⊢
      exact r.cut hl h
    · cases r with
      | cell hi' =>
        simp only [fz, if_neg hi] at h ⊢
        split
        · rename_i xs ec
          rw [ec] at h
          obtain ⟨vs, hv, rv⟩ := st.at_ i _ ec
          exact .lst (nl i _ hi ec) hv (rv.cut hl (by simpa [cb] using h))
        · rename_i ks xs ec
          rw [ec] at h
          obtain ⟨kvs, hv, hk, rv⟩ := st.at_ i _ ec
          subst hk
          exact .dT (nl i _ hi ec) hv (rv.cut hl (by simpa [cb] using h))
        · rename_i n1 n2
          exfalso
          split at h
          · rename_i ec; exact n1 _ ec
          · rename_i ec; exact n2 _ _ ec
          · simp only [cb, decide_eq_true_eq] at h
            exact hi h
  | _ => exact r.cut hl h
/-- from a body to the promise -/
theorem spD_body {np ns : Nat} {body : MS} {N : List Str} {vs : List V} {H : Hp} {Q : VK} {E : XK} (hN : N.length = ns) (hp : np ≤ ns) (h : SpD k np (mDef np ns body) vs H Q E) :
    LS k (fun c d _ H' => E c d H') body { nx := fun _ H' => Q .non H', rt := Q } (L2.start N vs) H := by
  obtain ⟨hv, A, C, ds, st, rl, h⟩ := h
  have hd : ds.length = np := by rw [← rl.length]; exact hv
  unfold mDef at h
  rw [if_pos hd] at h
  have sl : (L2.start N vs) = vs.map some ++ List.replicate (ns - np) none := by unfold L2.start; rw [hN, hv]
  have sr : SR k A ⟨C.length, ds.map some ++ List.replicate (ns - np) none⟩ C (L2.start N vs) H := by
    refine ⟨st, st.low, Nat.le_refl _, ?_, fun i d e => ?_⟩
    · rw [sl]
      simp [rl.length]
    · rw [sl]
      have e' : (ds.map some ++ List.replicate (ns - np) none)[i]? = some (some d) := e
      by_cases hi : i < ds.length
      · rw [List.getElem?_append_left (by simpa using hi), List.getElem?_map] at e'
        cases ed : ds[i]? with
        | none => rw [ed] at e'; cases e'
        | some d' =>
          rw [ed] at e'
          cases e'
          obtain ⟨v, h1, h2⟩ := rl.get ed
          refine ⟨v, ?_, h2⟩
          rw [List.getElem?_append_left (by rw [List.length_map, rl.length]; exact hi), List.getElem?_map, h1]
          rfl
      · rw [List.getElem?_append_right (by simpa using hi)] at e'
        have := List.getElem?_eq_some_iff.mp e'
        obtain ⟨h1, h2⟩ := this
        rw [List.getElem_replicate] at h2
        cases h2
  refine ⟨A, _, C, sr, ?_⟩
  have done : ∀ (d : D) (C' : Store), Aft k C.length A C H (RepD k) (fin C.length d C') (fun _ _ _ H' v => Q v H') E → ∀ A' H' v, Stp k C.length A C H A' C' H' → StOk k A' C' H' → Rep k A' C' H' v d → Q v H' := fun d C' hf A' H' v p st' r => by
    unfold fin at hf
    split at hf
    · rename_i hc
      obtain ⟨q1, q2, q3, q4⟩ := cut_stp rfl st st' p
      exact hf A' H' v q1 q2 (fz_rep st' q3 r hc)
    · exact hf.elim
  show AftS k _ C.length A C H (body ⟨C.length, ds.map some ++ List.replicate (ns - np) none⟩ C) _
  cases eb : body ⟨C.length, ds.map some ++ List.replicate (ns - np) none⟩ C with
  | nx sl' C' =>
    rw [eb] at h
    exact fun A' σ' H' p s' => done .non C' h A' H' .non p s'.st .non
  | rt d C' =>
    rw [eb] at h
    exact fun A' H' v p st' r => done d C' h A' H' v p st' r
  | bk sl' C' => rw [eb] at h; exact h.elim
  | ct sl' C' => rw [eb] at h; exact h.elim
  | stuck => rw [eb] at h; exact h.elim
  | xc e sl' C' =>
    rw [eb] at h
    intro A' σ' H' dd ws p s' x l r
    simp only at h
    split at h
    · rename_i hc
      obtain ⟨q1, q2, q3, q4⟩ := cut_stp rfl st s'.st p
      exact h A' H' dd ws q1 q2 x l (r.cut q3 hc)
    · exact h.elim
end
end CT
set_option maxHeartbeats 4000000
/-! DL8: defs, calls, instances over data. -/
namespace CT
open PySem L2 PySem.Spec PyProof.Rows
theorem Aft.more {k : Cn} {fl n : Nat} {A : Nat → Addr} {C : Store} {H : Hp} {α β : Type} {rel : (Nat → Addr) → Store → Hp → β → α → Prop} {m : R α} {Q : α → Store → (Nat → Addr) → Hp → β → Prop} {W : XK} (hn : fl ≤ n) (h : Aft k fl A C H rel m Q W) : Aft k n A C H rel m Q W := by
  cases m with
  | ok d C' => exact fun A' H' v p st r => h A' H' v (p.less hn) st r
  | exc e C' => exact fun A' H' dd vs p st x l r => h A' H' dd vs (p.less hn) st x l r
  | stuck => exact h
/-- a def of np parameters -/
def Ar (np : Nat) (m : MF) : Prop := ∀ ds C, ds.length ≠ np → m ds C = .stuck
theorem mDef_ar {np ns : Nat} {body : MS} : Ar np (mDef np ns body) := fun ds C h => by
  unfold mDef
  rw [if_neg h]
/-! ### defs that know that no repr runs around them -/
theorem RoomG.mono {i j : Nat} {A : Around} (r : RoomG j A) (h : i ≤ j) : RoomG i A := ⟨r.room.mono h, r.gd⟩
theorem RoomG.in1 {j : Nat} {A : Around} (r : RoomG (j + 1) A) : RoomG j A.in1 := ⟨r.room.in1, r.gd⟩
theorem RoomG.make {j : Nat} {A : Around} (r : RoomG (j + 1) A) (C : Addr) (us : List Value) (kw : List (Str × Value)) : RoomG j (A.under (.builtin "type.__call__" ⟨.ref C :: us, kw⟩)) :=
  ⟨r.room.make C us kw, by
    have e : (A.under (.builtin "type.__call__" ⟨.ref C :: us, kw⟩)).guards = A.guards := by
      first
        | rfl
        | simp [Around.under, Code.guards, Code.isGuard, pushGuards, guardIds]
    rw [e]
    exact r.gd⟩
structure FnG (P : Program) (w : World) (K : PySem.W.Frag) (mg : Str → Option Value) (base : Heap) (lev : Nat) (f : Addr) (fd : FuncData) (ps : List Str) (sp : Sp) : Prop where
  len : ∀ vs H Q E, sp vs H Q E → vs.length = ps.length
  run : ∀ (A : Around) (outer : List Env) (s : Shared) (H : Hp) (args : Args) (us : List Value) (vs : List V) (Q : VK) (E : XK), RoomG lev A → Env0 P w K mg base A outer s H → BindsTo s fd args (ps.zip us) → Vals vs us → sp vs H Q E →
    codeAny (model P w) A (.call (.ref f) args) (CR (L2.CX P w) outer P w H s Q E) s
theorem FnG.mono {P : Program} {w : World} {K : PySem.W.Frag} {mg : Str → Option Value} {base : Heap} {i j : Nat} {f : Addr} {fd : FuncData} {ps : List Str} {sp : Sp} (F : FnG P w K mg base i f fd ps sp) (h : i ≤ j) : FnG P w K mg base j f fd ps sp :=
  ⟨F.len, fun A outer s H args us vs Q E hr => F.run A outer s H args us vs Q E (hr.mono h)⟩
theorem fn_ofG {P : Program} {w : World} {K : PySem.W.Frag} {mg : Str → Option Value} {base : Heap} {lev : Nat} {f : Addr} {name qual : Str} {params : Arguments} {body : List Stmt} {scope : Scope} {dV kV doc pm cdv ct oc : Value} {an od : Option Addr}
    {osl : Array (Option Value)} {N ps : List Str} {sp : Sp} (lk : K.lookup f = some ⟨oc, od, .func (PySem.W.fnOf name qual params body scope dV kV doc pm an cdv ct), osl⟩) (hcd : PySem.W.codeIn K cdv qual = true) (S : FnScope N ps scope)
    (len : ∀ vs H Q E, sp vs H Q E → vs.length = ps.length)
    (hbody : ∀ (A : Around) (outer : List Env) (s : Shared) (H : Hp) (vs : List V) (Q : VK) (E : XK), RoomG lev (A.deeper (envOfC qual scope s.heap.objs.size f cdv)) → sp vs H Q E →
      ∃ t, PSs (cxOf (L2.CX P w) P w K mg base N qual scope f cdv A outer s H E) body t ∧ t { nx := fun _ H' => Q .non H', rt := Q } (L2.start N vs) H) :
    FnG P w K mg base (lev + 1) f (PySem.W.fnOf name qual params body scope dV kV doc pm an cdv ct) ps sp := by
  refine ⟨len, fun A outer s H args us vs Q E hr e0 hb r hsp => ?_⟩
  have hl := len _ _ _ _ hsp
  have KX : K.In s.heap := e0.mod.kin.keeps fun b o e => (e0.bs b o e).1
  have lim : s.heap.NoLimit := e0.mod.nolimit.keeps fun b o e => (e0.bs b o e).1
  have hkind : ∀ y ∈ ps.zip us, scope.names.lookup y.1 = some .local ∨ (scope.names.lookup y.1 = some .cell ∧ ((cellsFrom (s.heap.objs.size + 1) scope.names []).lookup y.1).isSome = true) := fun ⟨n, v⟩ hy => by
    rcases S.par n (List.of_mem_zip hy).1 with q | q
    · exact .inl q
    · exact .inr ⟨q, PySem.W.cellsFrom_some _ _ _ (.inl q)⟩
  refine codeAny_call_function hr.room.depth (KX _ _ lk) rfl S.co S.gen rfl (PySem.W.codeRec_of KX hcd) (hb _ _ _ _ ?_)
  refine wpAny_newFunctionEnv_cells S.kind hkind fun env he s1 x => ?_
  subst he
  refine ⟨lim.keeps x.toInCall.keep, codeAny_func ?_⟩
  obtain ⟨t, ht, hq⟩ := hbody A outer s H vs Q E ⟨hr.room.deeper _, hr.gd⟩ hsp
  have I : Inv (cxOf (L2.CX P w) P w K mg base N qual scope f cdv A outer s H E) [] (L2.start N vs) H s1 := inv_start S hr.room.hd e0 hl r x
  refine wpAny_mono (ht.run [] s1 (L2.start N vs) H _ I hq) (fun fl s' hs => ?_) fun e s' hs => hs
  have fin : ∀ {σ' : L2.St} {H' : Hp} {v : V} {u : Value}, Inv (cxOf (L2.CX P w) P w K mg base N qual scope f cdv A outer s H E) [] σ' H' s' → RelV v u → Q v H' → CE outer P w H s Q u s' :=
    fun {σ' H' v u} J rv q => ⟨v, H', J.os, J.bare, J.base, J.hok, rv, q⟩
  cases fl with
  | ret u =>
    obtain ⟨v, σ', H', J, rv, q⟩ := hs
    exact fin J rv q
  | next =>
    obtain ⟨σ', H', J, q⟩ := hs
    exact fin (v := V.non) (u := Value.none) J rfl q
  | brk =>
    obtain ⟨_, _, _, q⟩ := hs
    exact False.elim q
  | cont =>
    obtain ⟨_, _, _, q⟩ := hs
    exact False.elim q
section
variable {P : Program} {w : World} {k : Cn} {mg : Str → Option Value} {base : Heap} {x qual : Str} {params : Arguments} {body : List Stmt} {scope : Scope} {dvs : List V} {kws : List (Str × V)} {f : Addr} {fd : FuncData}
/-- THE RULE for a def: its body's derivation -/
theorem fn_ok {N ps : List Str} {lev : Nat} {m : MS} (F : FunD k.K x qual params body scope dvs kws f fd) (S : FnScope N ps scope) (hp : ps.length ≤ N.length)
    (hb : ∀ (cdv : Value) (A : Around) (outer : List Env) (s : Shared) (H : Hp) (E : XK), RoomG lev (A.deeper (envOfC qual scope s.heap.objs.size f cdv)) → PSs (cxOf (L2.CX P w) P w k.K mg base N qual scope f cdv A outer s H E) body (LS k (fun c d _ H' => E c d H') m)) :
    FnG P w k.K mg base (lev + 1) f fd ps (SpD k ps.length (mDef ps.length N.length m)) := by
  obtain ⟨oc, od, dV, kV, doc, pm, an, cdv, ct, osl, rfl, lk, hcd, _, _⟩ := F.ex
  exact fn_ofG lk hcd S (fun vs H Q E h => h.1) fun A outer s H vs Q E hr h => ⟨_, hb cdv A outer s H E hr, spD_body rfl hp h⟩
end
/-! ### calls -/
section
variable {X : Cx} {k : Cn} {W : WX} {σ : L2.St} {H : Hp} {Q : VK} {lev : Nat} {f C p g : Addr} {fd : FuncData} {ps : List Str} {np : Nat} {m : MF} {dvs : List V} {dds : List D} {ds : List Value} {x nm : Str} {pn pos apos : Pos} {e o : Expr} {es : List Expr} {ma : MA} {mo : ME}
theorem sp_of {A : Nat → Addr} {C : Store} {fl : Nat} {vs : List V} {xs : List D} {E : XK} (hf : fl ≤ C.length) (ar : Ar np m) (st : StOk k A C H) (r : RepL k A C H vs xs) (h : Aft k fl A C H (RepD k) (m xs C) (fun _ _ _ H' v => Q v H') E) : SpD k np m vs H Q E := by
  refine ⟨?_, A, C, xs, st, r, h.more hf⟩
  rw [r.length]
  by_cases hl : xs.length = np
  · exact hl
  · rw [ar xs C hl] at h
    exact h.elim
theorem run_fnG {sp : Sp} {E : L2.St → XK} {pins : List (Addr × Obj)} {σ : L2.St} {H : Hp} {s : Shared} {Q : VK} {us : List Value} {vs : List V} (F : FnG X.prog X.w X.K X.mg X.base lev f fd ps sp) (hr : RoomG lev X.A) (hb : Binds X.K fd ps ds) (hd : Vals dvs ds) (hx : PassesAt (L2.CX X.prog X.w) X σ (E σ))
    (I : Inv X pins σ H s) (r : Vals vs us) (h : sp (vs ++ dvs) H Q (E σ)) : wpAny (model X.prog X.w) X.A (call (.ref f) us) (EP X pins σ Q) X.xe s := by
  have r2 : Vals (vs ++ dvs) (us ++ ds) := r.append hd
  have hl : (us ++ ds).length = ps.length := by rw [← r2.length]; exact F.len _ _ _ _ h
  refine wpAny_call (codeAny_mono (F.run X.A X.stack s H ⟨us, []⟩ (us ++ ds) (vs ++ dvs) Q (E σ) hr I.env0 (hb s us I.kIn hl) r2 h) fun r s' hq => ?_)
  cases r with
  | error e => exact hx pins H s e s' I hq
  | ok fl =>
    cases fl with
    | ret u => exact I.after hq
    | next => exact False.elim hq
    | brk => exact False.elim hq
    | cont => exact False.elim hq
theorem pe_callG {sp : Sp} {E : L2.St → XK} {t : TA} (F : FnG X.prog X.w X.K X.mg X.base lev f fd ps sp) (hr : RoomG lev X.A) (hg : Gl X x) (hm : X.mg x = some (.ref f)) (hk : PySem.W.keepIn X.K (.ref f) = true) (hb : Binds X.K fd ps ds) (hd : Vals dvs ds) (hx : ∀ σ, PassesAt (L2.CX X.prog X.w) X σ (E σ))
    (ha : PA X (e :: es) t) (hdb : (x == ("__debug__" : Str)) = false := by decide) (he : starEach (e :: es) X.env = (false, eval e X.env) :: starEach es X.env := by rfl) (hpl : (backTo pos (starEach es X.env)).any (·.1) = false := by rfl) :
    PE X (.Call (.Name x pn) (e :: es) [] pos) (tCallSD sp dvs E t) := by
  refine ⟨fun pins s σ H Q I h => ?_⟩
  refine wpAny_Call_Name_kw (ld_glob I hg hm ?_ hdb)
  refine PySem.W.callWith_K (h₀ := X.base) I.ok.mod.kin hk (thn (ha.run pos pins s σ H _ I h) fun us s1 ⟨vs, H1, I1, r, q⟩ => ⟨I1.kIn, ?_⟩) he hpl
  exact run_fnG F hr hb hd (hx σ) I1 r q
theorem le_call (ar : Ar np m) (hd : ∀ A C H, RepL k A C H dvs dds) (h : LE k W (mCall m dds ma) σ H Q) : tCallSD (SpD k np m) dvs (WE W) (LA k W ma) σ H Q := by
  obtain ⟨A, F, C, s, h⟩ := h
  refine ⟨A, F, C, s, (Aft.bnd (rel := RepDs k) h).mono fun xs C1 A1 H1 vs p1 st1 r1 h1 => ?_⟩
  exact sp_of (s.step p1 st1).fl ar st1 (r1.append (hd _ _ _)) h1
/-- f(e, ..) -/
theorem de_call (tk : Takes X W) (F : FnG X.prog X.w X.K X.mg X.base lev f fd ps (SpD k np m)) (ar : Ar np m) (hr : RoomG lev X.A) (hg : Gl X x) (hm : X.mg x = some (.ref f)) (hk : PySem.W.keepIn X.K (.ref f) = true) (hb : Binds X.K fd ps ds) (hd : Vals dvs ds) (hdd : ∀ A C H, RepL k A C H dvs dds)
    (ha : PA X (e :: es) (LA k W ma)) (hdb : (x == ("__debug__" : Str)) = false := by decide) (he : starEach (e :: es) X.env = (false, eval e X.env) :: starEach es X.env := by rfl) (hpl : (backTo pos (starEach es X.env)).any (·.1) = false := by rfl) :
    PE X (.Call (.Name x pn) (e :: es) [] pos) (LE k W (mCall m dds ma)) := (pe_callG F hr hg hm hk hb hd (fun σ => passAt tk σ) ha hdb he hpl).cq fun _ _ _ h => le_call ar hdd h
/-! ### instances -/
theorem vO_at {A : Nat → Addr} {C : Store} {v : V} {d : D} {c : Nat} {fs : List D} (st : StOk k A C H) (r : Rep k A C H v d) (e : vO d C = some (c, fs)) : ∃ a dx vs, v = .ref a ∧ H a = some (.ins (k.cl c) dx (((k.fn c).take fs.length).zip vs)) ∧ fs.length ≤ (k.fn c).length ∧ RepL k A C H vs fs := by
  cases r with
  | @obj a0 dx0 c0 vs0 ds0 l h z rv =>
    cases e
    have hl : fs.length = (k.fn c).length := by rw [← rv.length]; exact z
    refine ⟨a0, dx0, vs0, rfl, ?_, Nat.le_of_eq hl, rv⟩
    rw [hl, List.take_length]
    exact h
  | cell hi =>
    rename_i i
    simp only [vO] at e
    split at e
    · rename_i c' fs' ec
      cases e
      obtain ⟨dx, vs, h, z, rv⟩ := st.at_ i _ ec
      exact ⟨_, dx, vs, rfl, h, z, rv⟩
    · cases e
  | _ => cases e
theorem zip_look {names : List Str} {vs : List V} {n : Nat} {f : Str} {v : V} (nd : names.Nodup) (hn : names[n]? = some f) (hv : vs[n]? = some v) : (names.zip vs).lookup f = some v := by
  induction names generalizing vs n with
  | nil => simp at hn
  | cons a r ih =>
    cases vs with
    | nil => simp at hv
    | cons b t =>
      cases n with
      | zero =>
        simp at hn hv
        subst hn
        subst hv
        simp [List.lookup]
      | succ n =>
        simp at hn hv
        have ne : (f == a) = false := by
          simp only [List.nodup_cons] at nd
          have : f ≠ a := fun e => nd.1 (by rw [← e]; exact List.mem_of_getElem? hn)
          simpa using this
        rw [List.zip_cons_cons, List.lookup_cons, ne]
        exact ih (by simp only [List.nodup_cons] at nd; exact nd.2) hn hv
theorem d_fld {c n : Nat} {f : Str} (hc : Cls k.K (k.cl c)) (hno : NoAttr k.K (k.cl c) f) (nd : (k.fn c).Nodup) (hf : (k.fn c)[n]? = some f) : ∀ fl A C H x dx d C' (Q : VK), fl ≤ C.length → LowC fl C → StOk k A C H → Rep k A C H x dx → oFld c n dx C = some (d, C') →
    (∀ A' H' v, Stp k fl A C H A' C' H' → StOk k A' C' H' → Rep k A' C' H' v d → Q v H') → ∃ a Cc dxx fs v, x = .ref a ∧ H a = some (.ins Cc dxx fs) ∧ Cls k.K Cc ∧ NoAttr k.K Cc f ∧ fs.lookup f = some v ∧ Q v H := by
  intro fl A C H x dx d C' Q hfl hl st r e q
  unfold oFld at e
  split at e
  · rename_i c' fs ev
    split at e
    · rename_i hcc
      subst hcc
      simp only [Option.map_eq_some_iff] at e
      obtain ⟨d', e1, e2⟩ := e
      cases e2
      obtain ⟨a, dx', vs, rfl, ha, hle, rv⟩ := vO_at st r ev
      obtain ⟨v, hv, rv1⟩ := rv.get e1
      have hn : n < fs.length := (List.getElem?_eq_some_iff.mp e1).1
      refine ⟨a, _, dx', _, v, rfl, ha, hc, hno, zip_look (nd.sublist (List.take_sublist _ _)) (by rw [List.getElem?_take_of_lt hn]; exact hf) hv, q A H v Stp.refl st rv1⟩
    · cases e
  · cases e
theorem le_fld {c n : Nat} {f : Str} (hc : Cls k.K (k.cl c)) (hno : NoAttr k.K (k.cl c) f) (nd : (k.fn c).Nodup) (hf : (k.fn c)[n]? = some f) (h : LE k W (mUn (oFld c n) mo) σ H Q) : tFld k.K (LE k W mo) f σ H Q := by
  obtain ⟨A, F, C, s, h⟩ := h
  refine ⟨A, F, C, s, (Aft.bnd (rel := RepD k) h).mono fun dx C1 A1 H1 v p1 st1 r1 h1 => ?_⟩
  obtain ⟨d, C', e, q⟩ := aft_ofO h1
  have s1 := s.step p1 st1
  exact d_fld hc hno nd hf F.fl A1 C1 H1 v dx d C' Q s1.fl s1.low st1 r1 e q
theorem de_fld (c n : Nat) {f : Str} (hK : X.K = k.K) (hc : Cls k.K (k.cl c)) (hno : NoAttr k.K (k.cl c) f) (nd : (k.fn c).Nodup) (hf : (k.fn c)[n]? = some f) (he : PE X o (LE k W mo)) (hb : attributeBase o f X.env (eval o X.env) = eval o X.env := by rfl) : PE X (.Attribute o f pos) (LE k W (mUn (oFld c n) mo)) :=
  (pe_fld he hb).cq fun _ _ _ h => by
    rw [hK]
    exact le_fld hc hno nd hf h
/-! ### methods, properties -/
end
end CT
set_option maxHeartbeats 4000000
/-! DL9: built-in functions over data. -/
namespace CT
open PySem L2 PySem.Spec PyProof.Rows
/-! ### data as the library's own -/
section
variable {k : Cn} {A : Nat → Addr} {C : Store} {H : Hp}
mutual
theorem toP0_dp : ∀ {v : V} {d : D} {p : PyData}, Rep k A C H v d → toP0 d = some p → Dp k.K H v p
  | _, _, _, .non, e => by simp only [toP0] at e; cases e; exact .non
  | _, _, _, .bl b, e => by simp only [toP0] at e; cases e; exact .bl b
  | _, _, _, .int i, e => by simp only [toP0] at e; cases e; exact .int i
  | _, _, _, .str s, e => by simp only [toP0] at e; cases e; exact .str s
  | _, _, _, .lst l h r, e => by
    simp only [toP0, Option.map_eq_some_iff] at e
    obtain ⟨ps, e1, rfl⟩ := e
    exact .lst (.inl (.inl h)) (toP0s_dp r e1)
  | _, _, _, .tup l h r, e => by
    simp only [toP0, Option.map_eq_some_iff] at e
    obtain ⟨ps, e1, rfl⟩ := e
    exact .tup (.inl (.inl h)) (toP0s_dp r e1)
  | _, _, _, .ktup h r, e => by
    simp only [toP0, Option.map_eq_some_iff] at e
    obtain ⟨ps, e1, rfl⟩ := e
    exact .tup (.inr h) (toP0s_dp r e1)
  | _, _, _, .scr l h r, e => by simp only [toP0] at e; cases e
  | _, _, _, .kscr h r, e => by simp only [toP0] at e; cases e
  | _, _, _, .obj l h z r, e => by simp only [toP0] at e; cases e
  | _, _, _, .exn x l h z r, e => by simp only [toP0] at e; cases e
  | _, _, _, .cls c, e => by simp only [toP0] at e; cases e
  | _, _, _, .dT l h r, e => by simp only [toP0] at e; cases e
  | _, _, _, .cell hi, e => by simp only [toP0] at e; cases e
theorem toP0s_dp : ∀ {vs : List V} {ds : List D} {ps : List PyData}, RepL k A C H vs ds → toP0s ds = some ps → DpAll k.K H vs ps
  | _, _, _, .nil, e => by simp only [toP0s] at e; cases e; exact .nil
  | _, _, _, .cons (d := d) (ds := ds) r t, e => by
    simp only [toP0s] at e
    cases e1 : toP0 d with
    | none => rw [e1] at e; cases e
    | some p =>
      cases e2 : toP0s ds with
      | none => rw [e1, e2] at e; cases e
      | some ps =>
        rw [e1, e2] at e
        cases e
        exact .cons (toP0_dp r e1) (toP0s_dp t e2)
end
mutual
theorem toP_dp (st : StOk k A C H) : ∀ {v : V} {d : D} {p : PyData}, Rep k A C H v d → toP C d = some p → Dp k.K H v p
  | _, _, _, .non, e => by simp only [toP] at e; cases e; exact .non
  | _, _, _, .bl b, e => by simp only [toP] at e; cases e; exact .bl b
  | _, _, _, .int i, e => by simp only [toP] at e; cases e; exact .int i
  | _, _, _, .str s, e => by simp only [toP] at e; cases e; exact .str s
  | _, _, _, .lst l h r, e => by
    simp only [toP, Option.map_eq_some_iff] at e
    obtain ⟨ps, e1, rfl⟩ := e
    exact .lst (.inl (.inl h)) (toPs_dp st r e1)
  | _, _, _, .tup l h r, e => by
    simp only [toP, Option.map_eq_some_iff] at e
    obtain ⟨ps, e1, rfl⟩ := e
    exact .tup (.inl (.inl h)) (toPs_dp st r e1)
  | _, _, _, .ktup h r, e => by
    simp only [toP, Option.map_eq_some_iff] at e
    obtain ⟨ps, e1, rfl⟩ := e
    exact .tup (.inr h) (toPs_dp st r e1)
  | _, _, _, .scr l h r, e => by simp only [toP] at e; cases e
  | _, _, _, .kscr h r, e => by simp only [toP] at e; cases e
  | _, _, _, .obj l h z r, e => by simp only [toP] at e; cases e
  | _, _, _, .exn x l h z r, e => by simp only [toP] at e; cases e
  | _, _, _, .cls c, e => by simp only [toP] at e; cases e
  | _, _, _, .dT l h r, e => by simp only [toP] at e; cases e
  | _, _, _, .cell (i := i) hi, e => by
    simp only [toP] at e
    split at e
    · rename_i xs ec
      simp only [Option.map_eq_some_iff] at e
      obtain ⟨ps, e1, rfl⟩ := e
      obtain ⟨vs, hv, rv⟩ := st.at_ i _ ec
      exact .lst (.inl (.inl hv)) (toP0s_dp rv e1)
    · cases e
theorem toPs_dp (st : StOk k A C H) : ∀ {vs : List V} {ds : List D} {ps : List PyData}, RepL k A C H vs ds → toPs C ds = some ps → DpAll k.K H vs ps
  | _, _, _, .nil, e => by simp only [toPs] at e; cases e; exact .nil
  | _, _, _, .cons (d := d) (ds := ds) r t, e => by
    simp only [toPs] at e
    cases e1 : toP C d with
    | none => rw [e1] at e; cases e
    | some p =>
      cases e2 : toPs C ds with
      | none => rw [e1, e2] at e; cases e
      | some ps =>
        rw [e1, e2] at e
        cases e
        exact .cons (toP_dp st r e1) (toPs_dp st t e2)
end
end
/-! ### == and != of data -/
theorem d_eqD {k : Cn} : OpD k (rEqD k.K) (oEqD false) := by
  intro fl A C H x y dx dy d C' Q hf hl st rx ry e q
  simp only [oEqD] at e
  split at e
  · rename_i p q' e1 e2
    split at e
    · rename_i hs
      simp only [Bool.and_eq_true] at hs
      cases e
      exact ⟨p, q', toP_dp st rx e1, toP_dp st ry e2, hs.1, hs.2, q A H _ Stp.refl st (.bl _)⟩
    · cases e
  · cases e
theorem d_neD {k : Cn} : OpD k (rNeD k.K) (oEqD true) := by
  intro fl A C H x y dx dy d C' Q hf hl st rx ry e q
  simp only [oEqD] at e
  split at e
  · rename_i p q' e1 e2
    split at e
    · rename_i hs
      simp only [Bool.and_eq_true] at hs
      cases e
      exact ⟨p, q', toP_dp st rx e1, toP_dp st ry e2, hs.1, hs.2, q A H _ Stp.refl st (.bl _)⟩
    · cases e
  · cases e
/-! ### repr -/
def rReprD (K : PySem.W.Frag) : List V → Hp → VK → Prop := fun xs H Q => ∃ v d, xs = [v] ∧ Dp K H v d ∧ d.showable = true ∧ d.hasDict = false ∧ d.depth ≤ 60 ∧ d.shown.length ≤ sizeLine ∧ Q (.str d.shown) H
theorem call_reprD {X : Cx} (hr : RoomG 0 X.A) : CallR X (.builtin "repr") (rReprD X.K) := by
  intro pins s σ H xs us Q I r h
  obtain ⟨v, d, rfl, hd, h1, h2, h3, h4, q⟩ := h
  obtain ⟨u, rfl, ru⟩ := Vals.one r
  have un : X.A.units + 200 < cLine := by have := hr.room.un; omega
  obtain ⟨as, rd⟩ := Dp.reads I d v u hd ru
  have fin : ∀ (t : Tok) (h' : Heap) (tk : Nat), (∀ b o, s.heap.get? b = some o → h'.get? b = some o) → EP X pins σ Q (.str d.shown t) { s with heap := h', toks := tk } := fun t h' tk hk => ⟨.str d.shown, H, I.kept (t' := tk) hk, ⟨_, rfl⟩, q⟩
  cases hd with
  | non =>
    cases ru
    exact PySem.P.repr_of_none (fin _ _ _ fun _ _ e => e)
  | bl b =>
    cases ru
    exact PySem.P.repr_of_bool (fin _ _ _ fun _ _ e => e)
  | int i =>
    obtain ⟨t, rfl⟩ := ru
    exact PySem.P.repr_of_int (by simpa [PyData.showable] using h1) (fin _ _ _ fun _ _ e => e)
  | str x =>
    obtain ⟨t, rfl⟩ := ru
    exact PySem.P.repr_of_str (fin _ _ _ fun _ _ e => e) h4
  | lst hs ha =>
    cases ru
    exact repr_of_reads' rd h1 (PyData.noDict_hsm h2) hr.gd (by omega) (fun _ _ e => e) (fun h' u tk hk => fin u h' tk hk) h4
  | tup hs ha =>
    cases ru
    exact repr_of_reads' rd h1 (PyData.noDict_hsm h2) hr.gd (by omega) (fun _ _ e => e) (fun h' u tk hk => fin u h' tk hk) h4
def oRepr : OA := fun xs C => match xs with
  | [d] => match toP C d with
    | some p => if repOk p = true then some (.str p.shown, C) else none
    | none => none
  | _ => none
theorem d_repr {k : Cn} : ApD k (rReprD k.K) oRepr := by
  intro fl A C H x dx d C' Q hf hl st rx e q
  unfold oRepr at e
  split at e
  · rename_i d0
    split at e
    · rename_i p ep
      split at e
      · rename_i ho
        cases e
        cases rx with
        | cons r t =>
          cases t
          simp only [repOk, Bool.and_eq_true, Bool.not_eq_true', decide_eq_true_eq] at ho
          exact ⟨_, p, rfl, toP_dp st r ep, ho.1.1.1, ho.1.1.2, ho.1.2, szN_le ho.2, q A H _ Stp.refl st (.str _)⟩
      · cases e
    · cases e
  · cases e
/-! ### len, sums, least, greatest, conversions -/
def oLen : OA := fun xs C => match xs with
  | [d] => (vS d C).map fun ys => (.int ys.length, C)
  | _ => none
theorem d_len {k : Cn} : ApD k (fun xs H Q => ∃ p ys, xs = [.ref p] ∧ (SqL k.K H p ys ∨ SqT k.K H p ys) ∧ Q (.int ys.length) H) oLen := by
  intro fl A C H x dx d C' Q hf hl st rx e q
  unfold oLen at e
  split at e
  · rename_i d0
    simp only [Option.map_eq_some_iff] at e
    obtain ⟨ys, e1, e2⟩ := e
    cases e2
    cases rx with
    | cons r t =>
      cases t
      obtain ⟨a, vs, rfl, hs, rv⟩ := vS_at st r e1
      exact ⟨a, vs, rfl, hs, q A H _ Stp.refl st (by rw [rv.length]; exact .int _)⟩
  · cases e
theorem dInts_eq : ∀ {ds : List D} {ns : List Int}, dInts ds = some ns → ds = ns.map D.int
  | [], _, e => by cases e; rfl
  | .int i :: r, _, e => by
    simp only [dInts, Option.map_eq_some_iff] at e
    obtain ⟨l, e1, rfl⟩ := e
    rw [dInts_eq e1]
    rfl
  | .non :: _, _, e => by cases e
  | .bl _ :: _, _, e => by cases e
  | .str _ :: _, _, e => by cases e
  | .lst _ :: _, _, e => by cases e
  | .tup _ :: _, _, e => by cases e
  | .scr _ :: _, _, e => by cases e
  | .kt _ :: _, _, e => by cases e
  | .obj _ _ :: _, _, e => by cases e
  | .exn _ _ :: _, _, e => by cases e
  | .cls _ :: _, _, e => by cases e
  | .dT _ _ :: _, _, e => by cases e
  | .cell _ :: _, _, e => by cases e
theorem dBools_eq : ∀ {ds : List D} {ns : List Bool}, dBools ds = some ns → ds = ns.map D.bl
  | [], _, e => by cases e; rfl
  | .bl i :: r, _, e => by
    simp only [dBools, Option.map_eq_some_iff] at e
    obtain ⟨l, e1, rfl⟩ := e
    rw [dBools_eq e1]
    rfl
  | .non :: _, _, e => by cases e
  | .int _ :: _, _, e => by cases e
  | .str _ :: _, _, e => by cases e
  | .lst _ :: _, _, e => by cases e
  | .tup _ :: _, _, e => by cases e
  | .scr _ :: _, _, e => by cases e
  | .kt _ :: _, _, e => by cases e
  | .obj _ _ :: _, _, e => by cases e
  | .exn _ _ :: _, _, e => by cases e
  | .cls _ :: _, _, e => by cases e
  | .dT _ _ :: _, _, e => by cases e
  | .cell _ :: _, _, e => by cases e
def oSum : OA := fun xs C => match xs with
  | [d] => (vL d C).bind fun ys => (dInts ys).map fun ns => (.int ns.sum, C)
  | _ => none
def oAny : OA := fun xs C => match xs with
  | [d] => (vL d C).bind fun ys => (dBools ys).map fun ns => (.bl (ns.any id), C)
  | _ => none
theorem d_sum {k : Cn} : ApD k (rSum k.K) oSum := by
  intro fl A C H x dx d C' Q hf hl st rx e q
  unfold oSum at e
  split at e
  · simp only [Option.bind_eq_some_iff, Option.map_eq_some_iff] at e
    obtain ⟨ys, e1, ns, e2, e3⟩ := e
    cases e3
    cases rx with
    | cons r t =>
      cases t
      obtain ⟨a, vs, rfl, ha, rv⟩ := vL_at st r e1
      rw [dInts_eq e2] at rv
      have := rv.ints_inv
      subst this
      exact ⟨a, ns, rfl, .inl (.inl ha), q A H _ Stp.refl st (.int _)⟩
  · cases e
theorem d_any {k : Cn} : ApD k (rAny k.K) oAny := by
  intro fl A C H x dx d C' Q hf hl st rx e q
  unfold oAny at e
  split at e
  · simp only [Option.bind_eq_some_iff, Option.map_eq_some_iff] at e
    obtain ⟨ys, e1, ns, e2, e3⟩ := e
    cases e3
    cases rx with
    | cons r t =>
      cases t
      obtain ⟨a, vs, rfl, ha, rv⟩ := vL_at st r e1
      rw [dBools_eq e2] at rv
      have := rv.bls_inv
      subst this
      exact ⟨a, ns, rfl, .inl (.inl ha), q A H _ Stp.refl st (.bl _)⟩
  · cases e
theorem d_2I {k : Cn} (g : Int → Int → Int) : ApD k (fun xs H Q => ∃ i j, xs = [.int i, .int j] ∧ Q (.int (g i j)) H) (o2I g) := by
  intro fl A C H x dx d C' Q hf hl st rx e q
  unfold o2I at e
  split at e
  · rename_i i j
    cases e
    cases rx with
    | cons r t =>
      cases t with
      | cons r2 t2 =>
        cases t2
        cases r
        cases r2
        exact ⟨i, j, rfl, q A H _ Stp.refl st (.int _)⟩
  · cases e
theorem d_max2 {k : Cn} : ApD k (fun xs H Q => ∃ i j, xs = [.int i, .int j] ∧ Q (.int (if j > i then j else i)) H) oMax2 := d_2I _
theorem d_min2 {k : Cn} : ApD k (fun xs H Q => ∃ i j, xs = [.int i, .int j] ∧ Q (.int (if j < i then j else i)) H) oMin2 := d_2I _
theorem d_abs {k : Cn} : ApD k (fun xs H Q => ∃ i, xs = [.int i] ∧ Q (.int (if i < 0 then -i else i)) H) oAbs := by
  intro fl A C H x dx d C' Q hf hl st rx e q
  unfold oAbs at e
  split at e
  · rename_i i
    cases e
    cases rx with
    | cons r t =>
      cases t
      cases r
      exact ⟨i, rfl, q A H _ Stp.refl st (.int _)⟩
  · cases e
theorem d_int {k : Cn} : ApD k (fun xs H Q => (∃ i, xs = [.int i] ∧ Q (.int i) H) ∨ ∃ k, xs = [.bl k] ∧ Q (.int (if k then 1 else 0)) H) oInt := by
  intro fl A C H x dx d C' Q hf hl st rx e q
  unfold oInt at e
  split at e
  · rename_i i
    cases e
    cases rx with
    | cons r t =>
      cases t
      cases r
      exact .inl ⟨i, rfl, q A H _ Stp.refl st (.int _)⟩
  · rename_i i
    cases e
    cases rx with
    | cons r t =>
      cases t
      cases r
      exact .inr ⟨i, rfl, q A H _ Stp.refl st (.int _)⟩
  · cases e
theorem d_tupOf {k : Cn} : ApD k (fun xs H Q => ∃ p ys, xs = [.ref p] ∧ ((SqL k.K H p ys ∧ ∀ l, H l = none → Q (.ref l) (upd H l (.tup ys))) ∨ (SqT k.K H p ys ∧ Q (.ref p) H))) oTupOf := by
  intro fl A C H x dx d C' Q hf hl st rx e q
  unfold oTupOf at e
  split at e
  · cases e
    cases rx with
    | cons r t =>
      cases t
      obtain ⟨a, vs, rfl, hs, rv⟩ := vT_at r rfl
      exact ⟨a, vs, rfl, .inr ⟨hs, q A H _ Stp.refl st r⟩⟩
  · cases e
    cases rx with
    | cons r t =>
      cases t
      obtain ⟨a, vs, rfl, hs, rv⟩ := vT_at r rfl
      exact ⟨a, vs, rfl, .inr ⟨hs, q A H _ Stp.refl st r⟩⟩
  · simp only [Option.map_eq_some_iff] at e
    obtain ⟨ys, e1, e2⟩ := e
    cases e2
    cases rx with
    | cons r t =>
      cases t
      obtain ⟨a, vs, rfl, ha, rv⟩ := vL_at st r e1
      refine ⟨a, vs, rfl, .inl ⟨.inl (.inl ha), fun l hl => ?_⟩⟩
      obtain ⟨w1, w2, w3⟩ := fresh_T (fl := fl) st rv hl
      exact q A _ _ w1 w2 w3
  · cases e
/-! ### + and * of lists, + of tuples -/
def oCat (own : Bool) : O2 := fun x y C => match vL x C, vL y C with
  | some xs, some ys => if szN (xs.length + ys.length) = true then some (mkL own (xs ++ ys) C) else none
  | _, _ => none
theorem d_cat {k : Cn} (own : Bool) : OpD k rCat (oCat own) := by
  intro fl A C H x y dx dy d C' Q hf hl st rx ry e q
  unfold oCat at e
  split at e
  · rename_i xs ys e1 e2
    split at e
    · rename_i hz
      obtain ⟨a, vs, rfl, ha, rv⟩ := vL_at st rx e1
      obtain ⟨b, ws, rfl, hb, rw⟩ := vL_at st ry e2
      refine ⟨a, b, vs, ws, rfl, rfl, ha, hb, by rw [rv.length, rw.length]; exact szN_le hz, fun p hp => ?_⟩
      obtain ⟨A2, w1, w2, w3⟩ := fresh_L (own := own) hf st (rv.append rw) hp
      have e' := Option.some.inj e
      rw [e'] at w1 w2 w3
      exact q A2 _ _ w1 w2 w3
    · cases e
  · cases e
def oRep (own : Bool) : O2 := fun x y C => match vL x C, y with
  | some xs, .int n => if (decide (-(2 ^ 63) ≤ n) && decide (n < 2 ^ 63) && szN (xs.length * n.toNat)) = true then some (mkL own (List.replicate n.toNat xs).flatten C) else none
  | _, _ => none
theorem d_rep {k : Cn} (own : Bool) : OpD k rRep (oRep own) := by
  intro fl A C H x y dx dy d C' Q hf hl st rx ry e q
  unfold oRep at e
  split at e
  · rename_i xs n e1
    split at e
    · rename_i hz
      simp only [Bool.and_eq_true, decide_eq_true_eq] at hz
      obtain ⟨a, vs, rfl, ha, rv⟩ := vL_at st rx e1
      cases ry
      refine ⟨a, n, vs, rfl, rfl, ha, hz.1.1, hz.1.2, by rw [rv.length]; exact szN_le hz.2, fun p hp => ?_⟩
      obtain ⟨A2, w1, w2, w3⟩ := fresh_L (own := own) hf st (rv.rep n.toNat) hp
      have e' := Option.some.inj e
      rw [e'] at w1 w2 w3
      exact q A2 _ _ w1 w2 w3
    · cases e
  · cases e
def oCatT : O2 := fun x y C => match vT x, vT y with
  | some xs, some ys => if szN (xs.length + ys.length) = true then (if xs.isEmpty = true then some (y, C) else if ys.isEmpty = true then some (x, C) else some (.tup (xs ++ ys), C)) else none
  | _, _ => none
theorem d_catT {k : Cn} : OpD k (rCatA k.K) oCatT := by
  intro fl A C H x y dx dy d C' Q hf hl st rx ry e q
  unfold oCatT at e
  split at e
  · rename_i xs ys e1 e2
    obtain ⟨a, vs, rfl, ha, rv⟩ := vT_at rx e1
    obtain ⟨b, ws, rfl, hb, rw⟩ := vT_at ry e2
    have z1 : vs = [] ↔ xs = [] := by
      have := rv.length
      constructor
      · intro h; subst h; exact List.length_eq_zero_iff.mp (by simpa using this.symm)
      · intro h; subst h; exact List.length_eq_zero_iff.mp (by simpa using this)
    have z2 : ws = [] ↔ ys = [] := by
      have := rw.length
      constructor
      · intro h; subst h; exact List.length_eq_zero_iff.mp (by simpa using this.symm)
      · intro h; subst h; exact List.length_eq_zero_iff.mp (by simpa using this)
    split at e
    · rename_i hz
      refine ⟨a, b, vs, ws, rfl, rfl, ha, hb, by rw [rv.length, rw.length]; exact szN_le hz, fun h => ?_, fun h h' => ?_, fun h h' p hp => ?_⟩
      · rw [if_pos (by simpa using z1.mp h)] at e
        cases e
        exact q A H _ Stp.refl st ry
      · have n1 : ¬ (xs.isEmpty = true) := by simpa using fun z => h (z1.mpr z)
        rw [if_neg n1, if_pos (by simpa using z2.mp h')] at e
        cases e
        exact q A H _ Stp.refl st rx
      · have n1 : ¬ (xs.isEmpty = true) := by simpa using fun z => h (z1.mpr z)
        have n2 : ¬ (ys.isEmpty = true) := by simpa using fun z => h' (z2.mpr z)
        rw [if_neg n1, if_neg n2] at e
        cases e
        obtain ⟨w1, w2, w3⟩ := fresh_T (fl := fl) st (rv.append rw) hp
        exact q A _ _ w1 w2 w3
    · cases e
  · cases e
/-! ### slices of lists -/
theorem cutD_rep {k : Cn} {A : Nat → Addr} {C : Store} {H : Hp} {vs : List V} {xs : List D} (r : RepL k A C H vs xs) (lo hi : Option Int) : RepL k A C H (cutV vs lo hi) (cutD xs lo hi) := by
  unfold cutV cutD
  rw [r.length]
  exact (r.drop _).take _
def LO (k : Cn) (W : WX) (m : Fr → Store → R (Option Int)) : TO := fun σ H Q => ∃ A F C, SR k A F C σ H ∧ Aft k F.fl A C H (fun _ _ _ (v d : Option Int) => v = d) (m F C) (fun _ _ _ H' v => Q v H') (fun c d H' => W c d σ H')
section
variable {X : Cx} {k : Cn} {W : WX} {σ : L2.St} {H : Hp} {Q : VK}
theorem _root_.L2.PO.cq {X : Cx} {e : Option Expr} {t t' : TO} (h : PO X e t) (c : ∀ σ H Q, t' σ H Q → t σ H Q) : PO X e t' := ⟨fun pins s σ H Q I q => h.run pins s σ H Q I (c σ H Q q)⟩
theorem do_none : PO X none (LO k W mNoPart) := po_none.cq fun σ H Q h => by
  obtain ⟨A, F, C, s, h⟩ := h
  exact h A H none Stp.refl s.st rfl
theorem do_some {e : Expr} {m : ME} (h : PE X e (LE k W m)) : PO X (some e) (LO k W (mPart m)) := (po_some h).cq fun σ H Q h => by
  obtain ⟨A, F, C, s, h⟩ := h
  refine ⟨A, F, C, s, (Aft.bnd (rel := RepD k) h).mono fun dx C1 A1 H1 x p1 st1 rx h1 => ?_⟩
  cases rx with
  | int i => exact ⟨i, rfl, h1 A1 H1 (some i) Stp.refl st1 rfl⟩
  | _ => exact h1.elim
theorem vLs_at {A : Nat → Addr} {C : Store} {v : V} {d : D} {ds : List D} (st : StOk k A C H) (r : Rep k A C H v d) (e : vLs d C = some ds) : ∃ a vs, v = .ref a ∧ SqL k.K H a vs ∧ RepL k A C H vs ds := by
  cases d with
  | scr xs =>
    cases r with
    | scr l h rv => cases e; exact ⟨_, _, rfl, .inl (.inr ⟨_, h⟩), rv⟩
    | kscr h rv => cases e; exact ⟨_, _, rfl, .inr h, rv⟩
  | lst xs => obtain ⟨a, vs, rfl, ha, rv⟩ := vL_at st r e; exact ⟨a, vs, rfl, .inl (.inl ha), rv⟩
  | cell i => obtain ⟨a, vs, rfl, ha, rv⟩ := vL_at st r e; exact ⟨a, vs, rfl, .inl (.inl ha), rv⟩
  | _ => cases e
theorem le_slL {own : Bool} {ma : ME} {l h' : Fr → Store → R (Option Int)} (h : LE k W (mSlL own ma l h') σ H Q) : tSl (rSlL k.K) (LE k W ma) (LO k W l) (LO k W h') σ H Q := by
  obtain ⟨A, F, C, s, h⟩ := h
  refine ⟨A, F, C, s, (Aft.bnd (rel := RepD k) h).mono fun dx C1 A1 H1 x p1 st1 rx h1 => ?_⟩
  have s1 := s.step p1 st1
  refine ⟨A1, F, C1, s1, (Aft.bnd (rel := fun _ _ _ (v d : Option Int) => v = d) h1).mono fun lo C2 A2 H2 lo' p2 st2 rl h2 => ?_⟩
  have rl : lo' = lo := rl
  subst rl
  have s2 := s1.step p2 st2
  refine ⟨A2, F, C2, s2, (Aft.bnd (rel := fun _ _ _ (v d : Option Int) => v = d) h2).mono fun hi C3 A3 H3 hi' p3 st3 rh h3 => ?_⟩
  have rh : hi' = hi := rh
  subst rh
  have s3 := s2.step p3 st3
  split at h3
  · rename_i xs ev
    obtain ⟨a, vs, rfl, ha, rv⟩ := vLs_at st3 (p3.rep _ _ (p2.rep _ _ rx)) ev
    refine ⟨a, vs, rfl, ha, fun p hp => ?_⟩
    obtain ⟨A4, w1, w2, w3⟩ := fresh_L (own := own) s3.fl st3 (cutD_rep rv lo' hi') hp
    exact h3 A4 _ _ w1 w2 w3
  · exact h3.elim
theorem de_slL (own : Bool) {e : Expr} {lo hi : Option Expr} {p2 pos : Pos} {ma : ME} {l h : Fr → Store → R (Option Int)} (hK : X.K = k.K) (he : PE X e (LE k W ma)) (hl : PO X lo (LO k W l)) (hu : PO X hi (LO k W h)) : PE X (.Subscript e (.Slice lo hi none p2) pos) (LE k W (mSlL own ma l h)) :=
  (pe_slice sl_list he hl hu).cq fun _ _ _ h => by
    rw [hK]
    exact le_slL h
end
end CT
set_option maxHeartbeats 4000000
/-! DLA: instances made, attributes stored, properties, isinstance. -/
namespace CT
open PySem L2 PySem.Spec PyProof.Rows
/-! ### C(..) -/
def mMake (own : Bool) (c nf : Nat) (m : MF) (dds : List D) (a : MA) : ME := fun F C => bnd (a F C) fun ds C1 => match m (.cell C1.length :: (ds ++ dds)) (C1 ++ [some (.ins c [])]) with
  | .ok .non C2 => if own = true then .ok (.cell C1.length) C2 else (match C2[C1.length]? with
    | some (some (.ins c' fs)) => if c' = c ∧ fs.length = nf ∧ cbL C1.length fs = true then .ok (.obj c fs) (C2.take C1.length) else .stuck
    | _ => .stuck)
  | .exc e C2 => if cbL C1.length e.fs = true then .exc e (C2.take C1.length) else .stuck
  | _ => .stuck
def tMakeS (Cc : Addr) (sp : Sp) (dvs : List V) (E : L2.St → XK) (t : TA) : TE := fun σ H Q => t σ H fun vs H1 => ∀ x dx, H1 x = none → H1 dx = none → dx ≠ x →
  sp (.ref x :: (vs ++ dvs)) (upd (upd H1 dx (.own x)) x (.ins Cc dx [])) (fun v H2 => v = .non ∧ Q (.ref x) H2) (E σ)
section
variable {X : Cx} {k : Cn} {W : WX} {σ : L2.St} {H : Hp} {Q : VK} {lev : Nat} {f C p g : Addr} {fd : FuncData} {ps : List Str} {np : Nat} {m : MF} {dvs : List V} {dds : List D} {ds : List Value} {x nm : Str} {pn pos apos : Pos} {e o : Expr} {es : List Expr} {ma : MA} {mo : ME}
theorem run_makeG {sp : Sp} {E : L2.St → XK} {pins : List (Addr × Obj)} {σ : L2.St} {H : Hp} {s : Shared} {Q : VK} {us : List Value} {vs : List V} (M : Mk X.K C f) (F : FnG X.prog X.w X.K X.mg X.base lev f fd ps sp) (hr : RoomG (lev + 1) X.A) (hb : Binds X.K fd ps ds) (hd : Vals dvs ds)
    (hx : ∀ σ, PassesAt (L2.CX X.prog X.w) X σ (E σ)) (I : Inv X pins σ H s) (r : Vals vs us)
    (h : ∀ x dx, H x = none → H dx = none → dx ≠ x → sp (.ref x :: (vs ++ dvs)) (upd (upd H dx (.own x)) x (.ins C dx [])) (fun v H2 => v = .non ∧ Q (.ref x) H2) (E σ)) :
    wpAny (model X.prog X.w) X.A (call (.ref C) us) (EP X pins σ Q) X.xe s := by
  have hq := h (s.heap.objs.size + 1) s.heap.objs.size (I.hok.fresh (Nat.le_succ _)) (I.hok.fresh (Nat.le_refl _)) (Nat.ne_of_lt (Nat.lt_succ_self _))
  have I2 := Inv.made (C := C) I
  have r2 : Vals (V.ref (s.heap.objs.size + 1) :: (vs ++ dvs)) (Value.ref (s.heap.objs.size + 1) :: (us ++ ds)) := .cons rfl (r.append hd)
  have hl : (Value.ref (s.heap.objs.size + 1) :: us ++ ds).length = ps.length := by
    have e := r2.length
    rw [F.len _ _ _ _ hq] at e
    exact e.symm
  refine wpAny_call (make_map (f := f) I.kIn M.makes M.init (beq_iff_eq.mp M.fn) (codeAny_mono (F.run _ X.stack _ _ ⟨Value.ref (s.heap.objs.size + 1) :: us, []⟩ (Value.ref (s.heap.objs.size + 1) :: (us ++ ds)) _ _ (E σ) (hr.make C us [])
    (I2.env0.make C us []) (hb _ (Value.ref (s.heap.objs.size + 1) :: us) I2.kIn hl) r2 hq) fun r s' hq' => ?_))
  cases r with
  | error e => exact hx σ pins _ _ e s' I2 hq'
  | ok fl =>
    cases fl with
    | ret u =>
      obtain ⟨v, H', I3, rv, ev, q3⟩ := I2.after hq'
      subst ev
      exact ⟨rv, ⟨V.ref (s.heap.objs.size + 1), H', I3, rfl, q3⟩⟩
    | next => exact False.elim hq'
    | brk => exact False.elim hq'
    | cont => exact False.elim hq'
theorem pe_makeG {sp : Sp} {E : L2.St → XK} {t : TA} (M : Mk X.K C f) (F : FnG X.prog X.w X.K X.mg X.base lev f fd ps sp) (hr : RoomG (lev + 1) X.A) (hg : Gl X x) (hm : X.mg x = some (.ref C)) (hb : Binds X.K fd ps ds) (hd : Vals dvs ds) (hx : ∀ σ, PassesAt (L2.CX X.prog X.w) X σ (E σ))
    (ha : PA X (e :: es) t) (hdb : (x == ("__debug__" : Str)) = false := by decide) (he : starEach (e :: es) X.env = (false, eval e X.env) :: starEach es X.env := by rfl) (hpl : (backTo pos (starEach es X.env)).any (·.1) = false := by rfl) :
    PE X (.Call (.Name x pn) (e :: es) [] pos) (tMakeS C sp dvs E t) := by
  refine ⟨fun pins s σ H Q I h => ?_⟩
  refine wpAny_Call_Name_kw (ld_glob I hg hm ?_ hdb)
  refine PySem.W.callWith_K (h₀ := X.base) I.ok.mod.kin M.kp (thn (ha.run pos pins s σ H _ I h) fun us s1 ⟨vs, H1, I1, r, q⟩ => ⟨I1.kIn, ?_⟩) he hpl
  exact run_makeG M F hr hb hd hx I1 r q
theorem le_make {own : Bool} {c nf : Nat} (ar : Ar np m) (hnf : (k.fn c).length = nf) (hdd : ∀ A C H, RepL k A C H dvs dds) (h : LE k W (mMake own c nf m dds ma) σ H Q) : tMakeS (k.cl c) (SpD k np m) dvs (WE W) (LA k W ma) σ H Q := by
  obtain ⟨A, F, C, s, h⟩ := h
  refine ⟨A, F, C, s, (Aft.bnd (rel := RepDs k) h).mono fun xs C1 A1 H1 vs p1 st1 r1 h1 => ?_⟩
  have s1 := s.step p1 st1
  intro x dx hx hdx hne
  have hx' : (upd H1 dx (.own x)) x = none := by rw [upd_ne (Ne.symm hne)]; exact hx
  have k1 : Kp A1 C1 H1 A1 C1 (upd H1 dx (.own x)) := kp_new hdx
  have st2 : StOk k A1 C1 (upd H1 dx (.own x)) := st1.new hdx
  have k2 : Kp A1 C1 (upd H1 dx (.own x)) (ext A1 C1.length x) (C1 ++ [some (.ins c [])]) (upd (upd H1 dx (.own x)) x (.ins (k.cl c) dx [])) := kp_cell (k := k) st2 hx'
  have st3 : StOk k (ext A1 C1.length x) (C1 ++ [some (.ins c [])]) (upd (upd H1 dx (.own x)) x (.ins (k.cl c) dx [])) := st2.cell hx' ⟨dx, [], upd_same, Nat.zero_le _, .nil⟩
  have pp : Stp k C1.length A1 C1 H1 (ext A1 C1.length x) (C1 ++ [some (.ins c [])]) (upd (upd H1 dx (.own x)) x (.ins (k.cl c) dx [])) := (k1.stp0).trans (k2.stp fun f h1 h2 l => low_app h2 l)
  have ppF := pp.less s1.fl
  have n1 : C1.length < (C1 ++ [some (Cell.ins c [])]).length := by simp
  have rs : RepL k (ext A1 C1.length x) (C1 ++ [some (.ins c [])]) (upd (upd H1 dx (.own x)) x (.ins (k.cl c) dx [])) (.ref x :: (vs ++ dvs)) (.cell C1.length :: (xs ++ dds)) := .cons (rep_new C1.length _) ((pp.reps r1).append (hdd _ _ _))
  have low0 : LowC C1.length (C1 ++ [some (Cell.ins c [])]) := low_app (Nat.le_refl _) st1.low
  refine sp_of (fl := C1.length) (Nat.le_of_lt n1) ar st3 rs ?_
  cases em : m (.cell C1.length :: (xs ++ dds)) (C1 ++ [some (.ins c [])]) with
  | ok d C2 =>
    rw [em] at h1
    intro A3 H3 v p3 st4 r3
    obtain ⟨ha3, hl3⟩ := cell_at p3 (ext_at A1 C1.length x) n1
    have p3n : Stp k C1.length A1 C1 H1 A3 C2 H3 := pp.trans p3
    have low3 : LowC C1.length C2 := p3.low _ (Nat.le_refl _) (Nat.le_of_lt n1) low0
    cases d with
    | non =>
      cases r3
      refine ⟨rfl, ?_⟩
      simp only at h1
      cases own with
      | true =>
        rw [if_pos rfl] at h1
        have r : Rep k A3 C2 H3 (.ref (A3 C1.length)) (.cell C1.length) := .cell hl3
        rw [ha3] at r
        exact h1 A3 H3 _ (p3n.less s1.fl) st4 r
      | false =>
        rw [if_neg (by decide)] at h1
        split at h1
        · rename_i c' fs ec
          split at h1
          · rename_i hc
            obtain ⟨rfl, hfs, hcb⟩ := hc
            obtain ⟨dx3, ws, hw, hle, rw3⟩ := st4.at_ _ _ ec
            have tl : (C2.take C1.length).length = C1.length := by rw [List.length_take]; omega
            have p4 : Stp k F.fl A1 C1 H1 A3 (C2.take C1.length) H3 := ⟨fun v d r => (p3n.rep v d r).cut (Nat.le_of_lt hl3) r.cb, by rw [tl]; exact Nat.le_refl _, fun f h1 h2 l => low_take ((p3n.less s1.fl).low f h1 h2 l)⟩
            refine h1 A3 H3 _ p4 (st4.take (Nat.le_of_lt hl3) low3) ?_
            rw [← ha3]
            refine .obj (fun l => ?_) (dx := dx3) (vs := ws) ?_ ?_ (rw3.cut (Nat.le_of_lt hl3) hcb)
            · obtain ⟨i, c, e, z⟩ := l
              by_cases hi : i < C1.length
              · rw [List.getElem?_take_of_lt hi] at e
                exact absurd (st4.inj i _ _ _ e ec z) (Nat.ne_of_lt hi)
              · rw [List.getElem?_eq_none (by rw [tl]; omega)] at e
                cases e
            · rw [hw, hfs, ← hnf, List.take_length]
            · rw [rw3.length, hfs, hnf]
          · exact h1.elim
        · exact h1.elim
    | _ => simp only at h1; exact h1.elim
  | exc e C2 =>
    rw [em] at h1
    simp only at h1
    intro A3 H3 dd ws p3 st4 hx3 hl3' r3
    obtain ⟨ha3, hl3⟩ := cell_at p3 (ext_at A1 C1.length x) n1
    have p3n : Stp k C1.length A1 C1 H1 A3 C2 H3 := pp.trans p3
    have low3 : LowC C1.length C2 := p3.low _ (Nat.le_refl _) (Nat.le_of_lt n1) low0
    split at h1
    · rename_i hcb
      have tl : (C2.take C1.length).length = C1.length := by rw [List.length_take]; omega
      have p4 : Stp k F.fl A1 C1 H1 A3 (C2.take C1.length) H3 := ⟨fun v d r => (p3n.rep v d r).cut (Nat.le_of_lt hl3) r.cb, by rw [tl]; exact Nat.le_refl _, fun f h1 h2 l => low_take ((p3n.less s1.fl).low f h1 h2 l)⟩
      exact h1 A3 H3 dd ws p4 (st4.take (Nat.le_of_lt hl3) low3) hx3 hl3' (r3.cut (Nat.le_of_lt hl3) hcb)
    · exact h1.elim
  | stuck =>
    rw [em] at h1
    exact h1.elim
theorem de_make (own : Bool) (c nf : Nat) (tk : Takes X W) (hK : X.K = k.K) (M : Mk k.K (k.cl c) f) (F : FnG X.prog X.w X.K X.mg X.base lev f fd ps (SpD k np m)) (ar : Ar np m) (hnf : (k.fn c).length = nf) (hr : RoomG (lev + 1) X.A) (hg : Gl X x) (hm : X.mg x = some (.ref (k.cl c))) (hb : Binds X.K fd ps ds) (hd : Vals dvs ds) (hdd : ∀ A C H, RepL k A C H dvs dds)
    (ha : PA X (e :: es) (LA k W ma)) (hdb : (x == ("__debug__" : Str)) = false := by decide) (he : starEach (e :: es) X.env = (false, eval e X.env) :: starEach es X.env := by rfl) (hpl : (backTo pos (starEach es X.env)).any (·.1) = false := by rfl) :
    PE X (.Call (.Name x pn) (e :: es) [] pos) (LE k W (mMake own c nf m dds ma)) := (pe_makeG (by rw [hK]; exact M) F hr hg hm hb hd (fun σ => passAt tk σ) ha hdb he hpl).cq fun _ _ _ h => le_make ar hnf hdd h
/-! ### o.f = e -/
def sFldS (c n : Nat) (me mo : ME) : MS := fun F C => bndS F.sl (me F C) fun v C1 => bndS F.sl (mo F C1) fun o C2 => match o with
  | .cell i => match C2[i]? with
    | some (some (.ins c' fs)) => if c' = c ∧ n ≤ fs.length then (match wr F.fl i (.ins c (if n < fs.length then fs.set n v else fs ++ [v])) C2 with
      | some C3 => .nx F.sl C3
      | none => .stuck) else .stuck
    | _ => .stuck
  | _ => .stuck
end
theorem putF_set {y : V} {f : Str} : ∀ {names : List Str} {vs : List V} {n : Nat}, names.Nodup → vs.length = names.length → names[n]? = some f → putF f y (names.zip vs) = names.zip (vs.set n y)
  | [], _, _, _, _, h => by simp at h
  | a :: r, [], _, _, hl, _ => by simp at hl
  | a :: r, b :: t, 0, nd, hl, h => by
    simp at h
    subst h
    simp [putF]
  | a :: r, b :: t, n + 1, nd, hl, h => by
    simp at h hl
    simp only [List.nodup_cons] at nd
    have ne : ¬ (a = f) := fun e => nd.1 (by rw [e]; exact List.mem_of_getElem? h)
    rw [List.zip_cons_cons, List.set_cons_succ, List.zip_cons_cons]
    show (if a = f then _ else (a, b) :: putF f y (r.zip t)) = _
    rw [if_neg ne, putF_set nd.2 hl h]
theorem putF_new {y : V} {f : Str} : ∀ {names : List Str} {vs : List V}, f ∉ names → vs.length = names.length → putF f y (names.zip vs) = (names ++ [f]).zip (vs ++ [y])
  | [], [], _, _ => rfl
  | [], _ :: _, _, hl => by simp at hl
  | a :: r, [], _, hl => by simp at hl
  | a :: r, b :: t, h, hl => by
    simp only [List.mem_cons, not_or] at h
    simp at hl
    rw [List.zip_cons_cons]
    show (if a = f then _ else (a, b) :: putF f y (r.zip t)) = _
    rw [if_neg (fun e => h.1 e.symm), putF_new h.2 hl]
    rfl
section
variable {X : Cx} {k : Cn} {W : WX} {σ : L2.St} {H : Hp} {E : Ends} {e o : Expr} {me mo : ME} {pos pos' : Pos}
theorem ls_fld {c n : Nat} {f : Str} (hc : Cls k.K (k.cl c)) (hno : NoAttr k.K (k.cl c) f) (nd : (k.fn c).Nodup) (hf : (k.fn c)[n]? = some f) (h9 : (k.fn c).length < 1000) (h : LS k W (sFldS c n me mo) E σ H) : sFld k.K (LE k W mo) (LE k W me) f E σ H := by
  obtain ⟨A, F, C, s, h⟩ := h
  refine ⟨A, F, C, s, (AftS.bnd (rel := RepD k) s h).mono fun dv C1 A1 H1 v p1 st1 rv h1 => ?_⟩
  have s1 := s.step p1 st1
  refine ⟨A1, F, C1, s1, (AftS.bnd (rel := RepD k) s1 h1).mono fun dO C2 A2 H2 o p2 st2 ro h2 => ?_⟩
  have s2 := s1.step p2 st2
  cases ro with
  | @cell i hi =>
    simp only at h2
    split at h2
    · rename_i c' fs ec
      split at h2
      · rename_i hcn
        obtain ⟨rfl, hn⟩ := hcn
        cases ew : wr F.fl i (.ins c' (if n < fs.length then fs.set n dv else fs ++ [dv])) C2 with
        | none => simp only [ew] at h2; exact h2.elim
        | some C3 =>
          simp only [ew] at h2
          obtain ⟨dx, vs, ha, hle, rvs⟩ := st2.at_ i _ ec
          have hnl : n < (k.fn c').length := (List.getElem?_eq_some_iff.mp hf).1
          obtain ⟨rfl, hcb⟩ := wr_some ew
          have hz : (((k.fn c').take fs.length).zip vs).length < 1000 := by rw [List.length_zip, List.length_take]; omega
          refine ⟨A2 i, k.cl c', dx, _, rfl, ha, hc, hno, hz, ?_⟩
          have vl : vs.length = ((k.fn c').take fs.length).length := by rw [rvs.length, List.length_take]; omega
          have rv2 := p2.rep _ _ rv
          by_cases hlt : n < fs.length
          · rw [if_pos hlt] at h2 hcb
            have e1 : putF f v (((k.fn c').take fs.length).zip vs) = ((k.fn c').take (fs.set n dv).length).zip (vs.set n v) := by
              rw [List.length_set]
              exact putF_set (nd.sublist (List.take_sublist _ _)) vl (by rw [List.getElem?_take_of_lt hlt]; exact hf)
            rw [e1]
            have q : Kp A2 C2 H2 A2 (C2.set i (some (.ins c' (fs.set n dv)))) (upd H2 (A2 i) (.ins (k.cl c') dx (((k.fn c').take (fs.set n dv).length).zip (vs.set n v)))) := kp_write ec
            have w1 : Stp k F.fl A2 C2 H2 A2 _ _ := q.stp fun f h1 h2 l => low_set hcb h1 l
            have w2 : StOk k A2 _ _ := st2.write ec (c := .ins c' (fs.set n dv)) ⟨dx, vs.set n v, upd_same, by simpa using hle, (rvs.set rv2 n).kp q⟩
            exact h2 A2 σ _ w1 (s2.step w1 w2)
          · have en : n = fs.length := by omega
            rw [if_neg hlt] at h2 hcb
            have e1 : putF f v (((k.fn c').take fs.length).zip vs) = ((k.fn c').take (fs ++ [dv]).length).zip (vs ++ [v]) := by
              have e2 : (k.fn c').take (fs ++ [dv]).length = (k.fn c').take fs.length ++ [f] := by
                rw [List.length_append, List.length_singleton, List.take_add_one, ← en, hf]
                rfl
              rw [e2]
              refine putF_new (fun hm => ?_) vl
              obtain ⟨j, hj⟩ := List.mem_iff_getElem?.mp hm
              have hjl : j < fs.length := by
                have := (List.getElem?_eq_some_iff.mp hj).1
                rw [List.length_take] at this
                omega
              rw [List.getElem?_take_of_lt hjl] at hj
              have := nd_ix nd hj hf
              omega
            rw [e1]
            have q : Kp A2 C2 H2 A2 (C2.set i (some (.ins c' (fs ++ [dv])))) (upd H2 (A2 i) (.ins (k.cl c') dx (((k.fn c').take (fs ++ [dv]).length).zip (vs ++ [v])))) := kp_write ec
            have w1 : Stp k F.fl A2 C2 H2 A2 _ _ := q.stp fun f h1 h2 l => low_set hcb h1 l
            have w2 : StOk k A2 _ _ := st2.write ec (c := .ins c' (fs ++ [dv])) ⟨dx, vs ++ [v], upd_same, by simp; omega, (rvs.append (.cons rv2 .nil)).kp q⟩
            exact h2 A2 σ _ w1 (s2.step w1 w2)
      · exact h2.elim
    · exact h2.elim
  | _ => exact h2.elim
theorem ds_fld (c n : Nat) {f : Str} (hK : X.K = k.K) (hc : Cls k.K (k.cl c)) (hno : NoAttr k.K (k.cl c) f) (nd : (k.fn c).Nodup) (hf : (k.fn c)[n]? = some f) (h9 : (k.fn c).length < 1000) (ho : PE X o (LE k W mo)) (he : PE X e (LE k W me)) (hs : swapsWith e (some (.Attribute o f pos')) pos.line X.env = pure false := by rfl) :
    PS X (.Assign [.Attribute o f pos'] e pos) (LS k W (sFldS c n me mo)) := (ps_fld ho he hs).cq fun _ _ _ h => by
  rw [hK]
  exact ls_fld hc hno nd hf h9 h
end
end CT
set_option maxHeartbeats 4000000
/-! DLB: properties, isinstance, comprehensions as statements, two clauses. -/
namespace CT
open PySem L2 PySem.Spec PyProof.Rows
/-! ### o.f, a property -/
def tPropS (Cc : Addr) (sp : Sp) (ta : TE) : TE := fun σ H Q => ta σ H fun x H1 => ∃ a dx fs, x = .ref a ∧ H1 a = some (.ins Cc dx fs) ∧ sp [.ref a] H1 Q E0
section
variable {X : Cx} {k : Cn} {W : WX} {σ : L2.St} {H : Hp} {Q : VK} {lev : Nat} {C p g a dx : Addr} {fs : List (Str × V)} {f : Str} {fd : FuncData} {ps : List Str} {np : Nat} {m : MF} {e o : Expr} {pos : Pos} {ta : TE} {mo : ME}
theorem getprop_G {sp : Sp} {pins : List (Addr × Obj)} {σ : L2.St} {H : Hp} {s : Shared} {Q : VK} {b : Bool} (I : Inv X pins σ H s) (ea : H a = some (.ins C dx fs)) (c : Cls X.K C) (hp : PropOf X.K C f p g)
    (F : FnG X.prog X.w X.K X.mg X.base lev g fd ps sp) (hr : RoomG (lev + 1) X.A) (hb : Binds X.K fd ps []) (h : sp [.ref a] H Q E0) :
    wpAny (model X.prog X.w) X.A (getAttr (.ref a) f b) (EP X pins σ Q) X.xe s := by
  obtain ⟨mA, O, _, _, _, _⟩ := ins_get I.hok ea
  obtain ⟨od, J, _⟩ := O.look
  obtain ⟨rest, hrec⟩ := hp.rec_
  have I1 := I.tok (s.toks + 1)
  have hl : ([Value.ref a] ++ []).length = ps.length := by
    rw [← F.len _ _ _ _ h]
    rfl
  have hc : (PySem.W.clsIn X.K C).isSome = true := by
    obtain ⟨cd, hc, _⟩ := PySem.W.any_some c.hd
    rw [hc]
    rfl
  refine PySem.W.get_bind I.kIn J (PySem.W.plainGet_of (c.get f)).1 (PySem.W.findObj_data hc hp.at_ hp.get hp.tak) (PySem.W.plainGet_of (c.get f)).2 (wpAny_call (PySem.W.prop_get (s := { s with toks := s.toks + 1 }) I.kIn hrec ?_))
  refine codeAny_mono (F.run X.A.in1 X.stack { s with toks := s.toks + 1 } H ⟨[.ref a], []⟩ [.ref a] [.ref a] Q E0 hr.in1 I1.env0.in1 (by simpa using hb _ [.ref a] I1.kIn hl) (.cons rfl .nil) h) fun r s' hq => ?_
  cases r with
  | error er =>
    obtain ⟨_, _, _, _, _, _, _, _, _, _, _, _, z⟩ := hq
    exact z.elim
  | ok fl =>
    cases fl with
    | ret u =>
      obtain ⟨v, H', I3, rv, q3⟩ := I1.after hq
      show wpAny _ _ (handedOut u) _ _ _
      rw [PySem.W.handedOut_of (handed_of rv)]
      exact wpAny_pure ⟨v, H', I3, rv, q3⟩
    | next => exact False.elim hq
    | brk => exact False.elim hq
    | cont => exact False.elim hq
theorem pe_propG {sp : Sp} (he : PE X e ta) (c : Cls X.K C) (hp : PropOf X.K C f p g) (F : FnG X.prog X.w X.K X.mg X.base lev g fd ps sp) (hr : RoomG (lev + 1) X.A) (hb : Binds X.K fd ps [])
    (hab : attributeBase e f X.env (eval e X.env) = eval e X.env) : PE X (.Attribute e f pos) (tPropS C sp ta) := by
  refine ⟨fun pins s σ H Q I h => ?_⟩
  refine attr_of hab (thn (he.run pins s σ H _ I h) fun u s1 ⟨x, H1, I1, rx, a, dx, fs, ex, ea, q⟩ => ?_)
  subst ex
  obtain rfl : u = Value.ref a := rx
  exact getprop_G I1 ea c hp F hr hb q
theorem le_prop {c : Nat} (ar : Ar np m) (h : LE k W (mProp c m mo) σ H Q) : tPropS (k.cl c) (SpD k np m) (LE k W mo) σ H Q := by
  obtain ⟨A, F, C, s, h⟩ := h
  refine ⟨A, F, C, s, (Aft.bnd (rel := RepD k) h).mono fun dx C1 A1 H1 v p1 st1 r1 h1 => ?_⟩
  split at h1
  · rename_i c' fs ev
    split at h1
    · rename_i hcc
      subst hcc
      obtain ⟨a, dx', vs, rfl, ha, hle, rv⟩ := vO_at st1 r1 ev
      refine ⟨a, dx', _, rfl, ha, sp_of (s.step p1 st1).fl ar st1 (.cons r1 .nil) ?_⟩
      cases em : m [dx] C1 with
      | ok d C2 => rw [em] at h1; exact h1
      | exc e C2 => rw [em] at h1; exact h1.elim
      | stuck => rw [em] at h1; exact h1.elim
    · exact h1.elim
  · exact h1.elim
theorem de_prop (c : Nat) (hK : X.K = k.K) (he : PE X o (LE k W mo)) (hc : Cls k.K (k.cl c)) (hp : PropOf k.K (k.cl c) f p g) (F : FnG X.prog X.w X.K X.mg X.base lev g fd ps (SpD k np m)) (ar : Ar np m) (hr : RoomG (lev + 1) X.A) (hb : Binds X.K fd ps [])
    (hab : attributeBase o f X.env (eval o X.env) = eval o X.env := by rfl) : PE X (.Attribute o f pos) (LE k W (mProp c m mo)) :=
  (pe_propG he (by rw [hK]; exact hc) (by rw [hK]; exact hp) F hr hb hab).cq fun _ _ _ h => le_prop ar h
end
/-! ### isinstance -/
theorem isaT_ok : ∀ a b : Bt, kitB a.name b.name = some (isaT a b) := by
  intro a b
  cases a <;> cases b <;> decide +kernel
/-- what the written part says of the own classes in kn -/
structure IsaOk (k : Cn) (kn : List Nat) : Prop where
  ins : ∀ c ∈ kn, C8.InsC k.K (k.cl c)
  own : ∀ c ∈ kn, ∀ c' ∈ kn, PySem.W.kitOne k.K (.ref (k.cl c)) (.ref (k.cl c')) = some (decide (c = c'))
  bty : ∀ c ∈ kn, ∀ b : Bt, PySem.W.kitOne k.K (.ref (k.cl c)) (.type b.name) = some false
  tyb : ∀ c ∈ kn, ∀ b : Bt, PySem.W.kitOne k.K (.type b.name) (.ref (k.cl c)) = some false
def Cc.inn (kn : List Nat) : Cc → Bool
  | .ty _ => true
  | .own c => decide (c ∈ kn)
section
variable {X : Cx} {k : Cn} {W : WX} {σ : L2.St} {H : Hp} {Q : VK}
theorem isi_ok {kn : List Nat} (ok : IsaOk k kn) {A : Nat → Addr} {C : Store} {v : V} {d : D} {t : Cc} {b : Bool} (ht : t.inn kn = true) (st : StOk k A C H) (r : Rep k A C H v d) (e : isi kn d C t = some b) : ∃ c0 : Cc, tyD d C = some c0 ∧ TyX k.K H v (c0.val k) ∧ PySem.W.kitOne k.K (c0.val k) (t.val k) = some b := by
  have base : ∀ a : Bt, tyD d C = some (.ty a) → PySem.W.kitOne k.K (.type a.name) (t.val k) = some b := fun a ea => by
    unfold isi at e
    rw [ea] at e
    cases t with
    | ty b' =>
      cases e
      exact kit_ty (isaT_ok a b')
    | own c =>
      cases e
      exact ok.tyb c (of_decide_eq_true ht) a
  have inst : ∀ c fs dx (a : Addr), tyD d C = some (.own c) → H a = some (.ins (k.cl c) dx fs) → ∃ c0 : Cc, tyD d C = some c0 ∧ TyX k.K H (.ref a) (c0.val k) ∧ PySem.W.kitOne k.K (c0.val k) (t.val k) = some b := fun c fs dx a ea ha => by
    unfold isi at e
    rw [ea] at e
    simp only at e
    split at e
    · rename_i hc
      have I := ok.ins c hc
      refine ⟨.own c, ea, .base (.ins ha I.cl I.ha I.hn I.htk I.hm), ?_⟩
      cases t with
      | ty b' => cases e; exact ok.bty c hc b'
      | own c' => cases e; exact ok.own c hc c' (of_decide_eq_true ht)
    · cases e
  cases r with
  | non => exact ⟨.ty .none, rfl, .base .non, base .none rfl⟩
  | bl b => exact ⟨.ty .bool, rfl, .base (.bl b), base .bool rfl⟩
  | int i => exact ⟨.ty .int, rfl, .base (.int i), base .int rfl⟩
  | str s => exact ⟨.ty .str, rfl, .base (.str s), base .str rfl⟩
  | lst l h rv => exact ⟨.ty .list, rfl, .base (.lst h), base .list rfl⟩
  | tup l h rv => exact ⟨.ty .tuple, rfl, .base (.tup h), base .tuple rfl⟩
  | ktup h rv =>
    obtain ⟨o, its, n, h1, h2, _⟩ := h
    exact ⟨.ty .tuple, rfl, .kTuple h1 h2, base .tuple rfl⟩
  | scr l h rv => cases e
  | kscr h rv => cases e
  | obj l h z rv => exact inst _ _ _ _ rfl h
  | exn x l h z rv => cases e
  | cls c => cases e
  | dT l h rv => exact ⟨.ty .dict, rfl, .base (.dT h), base .dict rfl⟩
  | @cell i hi =>
    cases ec : C[i]? with
    | none => simp only [isi, tyD, ec] at e; cases e
    | some oc =>
      cases oc with
      | none => simp only [isi, tyD, ec] at e; cases e
      | some c =>
        cases c with
        | lst xs =>
          obtain ⟨vs, hv, _⟩ := st.at_ i _ ec
          exact ⟨.ty .list, by simp only [tyD, ec], .base (.lst hv), base .list (by simp only [tyD, ec])⟩
        | dT ks xs =>
          obtain ⟨vs, hv, _⟩ := st.at_ i _ ec
          exact ⟨.ty .dict, by simp only [tyD, ec], .base (.dT hv), base .dict (by simp only [tyD, ec])⟩
        | ins c xs =>
          obtain ⟨dx, vs, hv, _⟩ := st.at_ i _ ec
          exact inst c _ dx _ (by simp only [tyD, ec]) hv
theorem le_isi {kn : List Nat} {t : Cc} {m : ME} (ok : IsaOk k kn) (ht : t.inn kn = true) (h : LE k W (mIsi kn t m) σ H Q) : tCB (rIsi k.K) (tCons (LE k W m) (tCons (tC (t.v k)) tNil)) σ H Q := by
  obtain ⟨A, F, C, s, h⟩ := h
  refine ⟨A, F, C, s, (Aft.bnd (rel := RepD k) h).mono fun d C1 A1 H1 v p1 st1 r1 h1 => ?_⟩
  split at h1
  · rename_i b e
    obtain ⟨c0, _, h2, h3⟩ := isi_ok ok ht st1 r1 e
    exact ⟨v, t.v k, c0.val k, t.val k, b, rfl, t.cls, h2, h3, h1 A1 H1 _ Stp.refl st1 (.bl b)⟩
  · exact h1.elim
theorem le_isi2 {kn : List Nat} {t u : Cc} {m : ME} (ok : IsaOk k kn) (ht : t.inn kn = true) (hu : u.inn kn = true) (h : LE k W (mIsi2 kn t u m) σ H Q) : tCB (rIsiT k.K) (tCons (LE k W m) (tCons (tTup (tCons (tC (t.v k)) (tCons (tC (u.v k)) tNil))) tNil)) σ H Q := by
  obtain ⟨A, F, C, s, h⟩ := h
  refine ⟨A, F, C, s, (Aft.bnd (rel := RepD k) h).mono fun d C1 A1 H1 v p1 st1 r1 h1 => ?_⟩
  split at h1
  · rename_i b b' e e'
    refine ⟨by show 2 ≤ sizeLine; decide, fun p hp => ?_⟩
    have q : Kp A1 C1 H1 A1 C1 (upd H1 p (.tup [t.v k, u.v k])) := kp_new hp
    have r2 := r1.kp (k := k) q
    have st2 := st1.new (o := .tup [t.v k, u.v k]) hp
    obtain ⟨c0, g1, h2, h3⟩ := isi_ok ok ht st2 r2 e
    obtain ⟨c1, g2, h2', h3'⟩ := isi_ok ok hu st2 r2 e'
    rw [g1] at g2
    cases g2
    refine ⟨v, p, [t.v k, u.v k], c0.val k, [t.val k, u.val k], b || b', rfl, upd_same, .cons t.cls (.cons u.cls .nil), h2, ?_, h1 A1 _ _ q.stp0 st2 (.bl _)⟩
    refine kitAny_cons h3 (fun hb => ?_) fun hb => by rw [hb]; rfl
    refine kitAny_cons h3' (fun hb' => ?_) fun hb' => by rw [hb']; simp
    rw [hb, hb']
    rfl
  · exact h1.elim
end
end CT
set_option maxHeartbeats 4000000
/-! DLC: isinstance as an expression; comprehensions that are assigned, and of two clauses; xs[i] += e; membership; list(range(..)). -/
namespace CT
open PySem L2 PySem.Spec PyProof.Rows
section
variable {X : Cx} {k : Cn} {W : WX} {σ : L2.St} {H : Hp} {Q : VK} {E : Ends}
theorem de_isi {e c : Expr} {p pos : Pos} {kn : List Nat} {t : Cc} {m : ME} (hg : Gl X "isinstance") (hm : X.mg "isinstance" = none) (ok : IsaOk k kn) (ht : t.inn kn = true) (hK : X.K = k.K) (he : PE X e (LE k W m)) (hc : PE X c (tC (t.v k)))
    (hs : starEach [e, c] X.env = (false, eval e X.env) :: starEach [c] X.env := by rfl) (hs2 : starEach [c] X.env = (false, eval c X.env) :: starEach [] X.env := by rfl) (hpl : (backTo pos (starEach [c] X.env)).any (·.1) = false := by rfl) : PE X (.Call (.Name "isinstance" p) [e, c] [] pos) (LE k W (mIsi kn t m)) :=
  (pe_callB call_isi hg hm (by decide +kernel) (pa_cons he (pa_cons hc pa_nil hs2) hs) (he := hs) (hpl := hpl)).cq fun _ _ _ h => by
    rw [hK]
    exact le_isi ok ht h
theorem de_isi2 {e c c' : Expr} {p pos tp : Pos} {kk : Nat} {kn : List Nat} {t u : Cc} {m : ME} (hg : Gl X "isinstance") (hm : X.mg "isinstance" = none) (ok : IsaOk k kn) (ht : t.inn kn = true) (hu : u.inn kn = true) (hK : X.K = k.K) (he : PE X e (LE k W m)) (hc : PE X c (tC (t.v k))) (hc' : PE X c' (tC (u.v k)))
    (hs : starEach [e, .Tuple [c, c'] kk tp] X.env = (false, eval e X.env) :: starEach [.Tuple [c, c'] kk tp] X.env := by rfl) (hs2 : starEach [.Tuple [c, c'] kk tp] X.env = (false, eval (.Tuple [c, c'] kk tp) X.env) :: starEach [] X.env := by rfl) (hpl : (backTo pos (starEach [.Tuple [c, c'] kk tp] X.env)).any (·.1) = false := by rfl)
    (h3 : starEach [c, c'] X.env = (false, eval c X.env) :: starEach [c'] X.env := by rfl) (h4 : starEach [c'] X.env = (false, eval c' X.env) :: starEach [] X.env := by rfl) : PE X (.Call (.Name "isinstance" p) [e, .Tuple [c, c'] kk tp] [] pos) (LE k W (mIsi2 kn t u m)) :=
  (pe_callB call_isiT hg hm (by decide +kernel) (pa_cons he (pa_cons (pe_tup (pa_cons hc (pa_cons hc' pa_nil h4) h3)) pa_nil hs2) hs) (he := hs) (hpl := hpl)).cq fun _ _ _ h => by
    rw [hK]
    exact le_isi2 ok ht hu h
/-! ### tests of a clause -/
theorem _root_.L2.PTs.cq {X : Cx} {e : List Expr} {t t' : TT} (h : PTs X e t) (c : ∀ σ H Q, t' σ H Q → t σ H Q) : PTs X e t' := ⟨fun pins s σ H Q I q => h.run pins s σ H Q I (c σ H Q q)⟩
theorem dts_nil : PTs X [] (LT k W tYesM) := pts_nil.cq fun σ H Q h => by
  obtain ⟨A, F, C, s, h⟩ := h
  exact h A H true Stp.refl s.st rfl
/-! ### y = [..] -/
theorem ds_setLc {i : Nat} {y : Str} {py : Pos} {elt tg iter : Expr} {ifs : List Expr} {scope : Scope} {own : List (Str × Nat)} {pos spos : Pos} {mi : MI} {t : Tgt} {tt : MT} {te : ME} (ow : Bool) (hK : X.K = k.K) (hc : X.calm = true) (hN : X.N.Nodup) (hy : X.N[i]? = some y) (hyl : X.env.scope.names.lookup y = some .local)
    (hsw : swapsWith (.ListComp elt [⟨tg, iter, ifs, 0⟩] scope pos) (some (.Name y py)) spos.line X.env = pure true) (hi : PI X tg iter (LI k W mi)) (ok : BlkOk X.N X.env.scope scope own) (hv : ∀ i ∈ t.slots, i ∈ own.map (·.2))
    (hg : ∀ (s : Shared) (H : Hp) (C : Addr) (cl : List (Str × Addr)) (fp : List Addr), PG (X.blk s H scope (compEnvC scope cl C X.env) fp) tg (t.T k.K)) (ht : ∀ (s : Shared) (H : Hp) (C : Addr) (cl : List (Str × Addr)) (fp : List Addr), PTs (X.blk s H scope (compEnvC scope cl C X.env) fp) ifs (LT k WF tt))
    (he : ∀ (s : Shared) (H : Hp) (C : Addr) (cl : List (Str × Addr)) (fp : List Addr), PE (X.blk s H scope (compEnvC scope cl C X.env) fp) elt (LE k WF te)) (hs : ∀ x, foldedSetIterable iter X.env x = pure x := by intro _; rfl) :
    PS X (.Assign [.Name y py] (.ListComp elt [⟨tg, iter, ifs, 0⟩] scope pos) spos) (LS k W (sAsg (mLc ow mi t.M tt te (own.map (·.2))) (gN i))) :=
  (ps_setLc hc hN hy hyl hsw hi ok hg ht he hs).cq fun _ _ _ h => le_lc hv (ls_asg2 (t := .nm i) h)
/-! ### two clauses -/
def lc2N (it : ItD) (g : MG) (tt : MT) (mi1 : MI) (g1 : MG) (tt1 : MT) (te : ME) (n : Nat) (sl : List (Option D)) (vs1 : List Nat) : Nat → Nat → Store → R Unit
  | 0, _, C => if it.fin C = true then .ok () C else .stuck
  | r + 1, j, C => match it.item j C with
    | none => .stuck
    | some d => match g d sl with
      | none => .stuck
      | some sl1 => bn0 (tt ⟨n, sl1⟩ C) fun b C1 => if b = true then bn0 (mi1 ⟨n, sl1⟩ C1) fun it1 C2 => bn0 (lcN it1 g1 tt1 te n (wipeD sl1 vs1) it1.n 0 C2) fun _ C3 => lc2N it g tt mi1 g1 tt1 te n sl vs1 r (j + 1) C3
        else lc2N it g tt mi1 g1 tt1 te n sl vs1 r (j + 1) C1
def mLc2 (own : Bool) (mi : MI) (g : MG) (tt : MT) (mi1 : MI) (g1 : MG) (tt1 : MT) (te : ME) (vs vs1 : List Nat) : ME := fun F C => bnd (mi F C) fun it C1 => bn0 (lc2N it g tt mi1 g1 tt1 te C1.length (wipeD F.sl vs) vs1 it.n 0 (C1 ++ [some (.lst [])])) fun _ C2 => lcEnd own C1.length C2
theorem bn0_out {α β : Type} {m : R α} {f : α → Store → R β} {b : β} {C : Store} (h : bn0 m f = .ok b C) : ∃ a C1, m = .ok a C1 ∧ f a C1 = .ok b C := by
  cases m with
  | ok a C1 => exact ⟨a, C1, rfl, h⟩
  | exc e C1 => cases h
  | stuck => cases h
/-- the inner loop -/
theorem lc_inner {fl n : Nat} {J : It} {it : ItD} {t : Tgt} {tt : MT} {te : ME} {vs : List Nat} {sl0 : List (Option D)} {A : Nat → Addr} {C C3 : Store} {Dl : Addr} {Nx : Hp → Prop} (hv : ∀ i ∈ t.slots, i ∈ vs) (hf : fl ≤ n) (ok : ItOk k fl J it A C H) (sr : SR k A ⟨n, sl0⟩ C σ H) (hn : n < C.length) (ha : A n = Dl)
    (e : lcN it t.M tt te n (wipeD sl0 vs) it.n 0 C = .ok () C3) (hN : ∀ A' H', Stp k n A C H A' C3 H' → StOk k A' C3 H' → Nx H') :
    ∃ W1 : Nat → Nat → Hp → Prop, (∃ m, W1 0 m H) ∧ ∀ i m H, W1 i m H → (J.stop i H ∧ Nx H) ∨ (J.go i H ∧ ∃ Nx1 : Hp → Prop, (∀ H', Nx1 H' → ∃ m', m' < m ∧ W1 (i + 1) m' H') ∧ ∀ x H', J.yld i H x H' → t.T k.K x (L2.wipe σ vs) H' fun σ3 H5 => L2.wipe σ3 vs = L2.wipe σ vs ∧ LT k WF tt σ3 H5 fun b H6 =>
      if b = true then LE k WF te σ3 H6 fun y H7 => ∃ acc, H7 Dl = some (.lst acc) ∧ acc.length < sizeLine ∧ Nx1 (upd H7 Dl (.lst (acc ++ [y]))) else Nx1 H6) := by
  refine ⟨fun i m H' => ∃ A' C', m = it.n - i ∧ i ≤ it.n ∧ Stp k n A C H A' C' H' ∧ StOk k A' C' H' ∧ lcN it t.M tt te n (wipeD sl0 vs) (it.n - i) i C' = .ok () C3,
    ⟨it.n, _, _, rfl, Nat.zero_le _, Stp.refl, sr.st, e⟩, ?_⟩
  rintro i m H' ⟨A', C', rfl, hi, p, st', h'⟩
  obtain ⟨ha', hl'⟩ := cell_at p ha hn
  have low' : LowC n C' := p.low _ (Nat.le_refl _) (Nat.le_of_lt hn) sr.low
  obtain ⟨o1, o2⟩ := ok A' C' H' (p.less hf) st'
  cases er : it.n - i with
  | zero =>
    rw [er] at h'
    unfold lcN at h'
    have e : i = it.n := by omega
    split at h'
    · rename_i hf
      cases h'
      subst e
      exact .inl ⟨o2 hf, hN A' H' p st'⟩
    · cases h'
  | succ r =>
    rw [er] at h'
    unfold lcN at h'
    have hlt : i < it.n := by omega
    have hr : it.n - (i + 1) = r := by omega
    cases ei : it.item i C' with
    | none => simp only [ei] at h'; cases h'
    | some d =>
      simp only [ei] at h'
      obtain ⟨g1, g2⟩ := o1 i d hlt ei
      cases eg : t.M d (wipeD sl0 vs) with
      | none => simp only [eg] at h'; cases h'
      | some sl1 =>
        simp only [eg] at h'
        refine .inr ⟨g1, fun H4 => ∃ A4 C4, Stp k n A C H A4 C4 H4 ∧ StOk k A4 C4 H4 ∧ lcN it t.M tt te n (wipeD sl0 vs) (it.n - (i + 1)) (i + 1) C4 = .ok () C3,
          fun H4 ⟨A4, C4, a, b, c⟩ => ⟨it.n - (i + 1), by omega, A4, C4, rfl, by omega, a, b, c⟩, fun x H'' y => ?_⟩
        obtain ⟨A'', py, sty, rx⟩ := g2 x H'' y
        have py' : Stp k n A' C' H' A'' C' H'' := ⟨py.rep, py.len, fun f _ _ h => h⟩
        have s9 : SR k A'' ⟨n, wipeD sl0 vs⟩ C' (L2.wipe σ vs) H'' := ((sr.re (p.trans py') sty low' (Nat.le_of_lt hl')).wipe vs)
        refine Tgt.of (vs0 := vs) s9 rx eg fun σ2 s2 w2 => ⟨by rw [w2 hv, wipe_wipe], A'', ⟨n, sl1⟩, C', s2, ?_⟩
        cases et : tt ⟨n, sl1⟩ C' with
        | ok b C5 =>
          rw [et] at h'
          simp only [bn0_ok] at h'
          intro A5 H5 v5 p5 st5 e5
          have e5 : v5 = b := e5
          subst e5
          have s5 := s2.step p5 st5
          cases v5 with
          | true =>
            rw [if_pos rfl] at h'
            refine iteT ⟨A5, ⟨n, sl1⟩, C5, s5, ?_⟩
            cases ee : te ⟨n, sl1⟩ C5 with
            | ok yd C6 =>
              rw [ee] at h'
              simp only [bn0_ok] at h'
              intro A6 H6 v6 p6 st6 r6
              have pall := (p.trans py').trans (p5.trans p6)
              obtain ⟨ha6, hl6⟩ := cell_at pall ha hn
              split at h'
              · rename_i acc hc
                split at h'
                · rename_i hz
                  obtain ⟨ws, hw, rw6⟩ := st6.at_ _ _ hc
                  rw [ha6] at hw
                  obtain ⟨q1, q2⟩ := push_L (k := k) (fl := n) (Nat.le_refl _) st6 ha6 hc hw r6
                  refine ⟨ws, hw, by have := szN_le hz; rw [rw6.length]; omega, A6, _, pall.trans q1, q2, ?_⟩
                  rw [hr]
                  exact h'
                · cases h'
              · cases h'
            | exc e C6 => rw [ee] at h'; cases h'
            | stuck => rw [ee] at h'; cases h'
          | false =>
            rw [if_neg (by decide)] at h'
            refine iteF ⟨A5, C5, (p.trans py').trans p5, st5, ?_⟩
            rw [hr]
            exact h'
        | exc e C5 => rw [et] at h'; cases h'
        | stuck => rw [et] at h'; cases h'
theorem le_lc2 {own : Bool} {mi mi1 : MI} {t t1 : Tgt} {tt tt1 : MT} {te : ME} {vs vs1 : List Nat} (hv : ∀ i ∈ t.slots, i ∈ vs) (hv1 : ∀ i ∈ t1.slots, i ∈ vs1) (h : LE k W (mLc2 own mi t.M tt mi1 t1.M tt1 te vs vs1) σ H Q) :
    tLc2 (LI k W mi) (t.T k.K) (LT k WF tt) (LI k WF mi1) (t1.T k.K) (LT k WF tt1) (LE k WF te) vs vs1 σ H Q := by
  obtain ⟨A, F, C, s, h⟩ := h
  refine ⟨A, F, C, s, (Aft.bnd (rel := fun A C H (J : It) (it : ItD) => ItOk k F.fl J it A C H) h).mono fun it C1 A1 H1 J p1 st1 ok h1 => ?_⟩
  have s1 := s.step p1 st1
  intro Dl hD
  have q0 : Kp A1 C1 H1 (ext A1 C1.length Dl) (C1 ++ [some (.lst [])]) (upd H1 Dl (.lst [])) := kp_cell (k := k) st1 hD
  have p2 : Stp k C1.length A1 C1 H1 (ext A1 C1.length Dl) (C1 ++ [some (.lst [])]) (upd H1 Dl (.lst [])) := q0.stp fun f h1 h2 l => low_app h2 l
  have p2' : Stp k F.fl A1 C1 H1 (ext A1 C1.length Dl) (C1 ++ [some (.lst [])]) (upd H1 Dl (.lst [])) := p2.less s1.fl
  have st2 : StOk k (ext A1 C1.length Dl) (C1 ++ [some (.lst [])]) (upd H1 Dl (.lst [])) := st1.cell hD ⟨[], upd_same, .nil⟩
  have n1 : C1.length < (C1 ++ [some (Cell.lst [])]).length := by simp
  have low1 : LowC C1.length (C1 ++ [some (Cell.lst [])]) := p2.low _ (Nat.le_refl _) (Nat.le_refl _) st1.low
  obtain ⟨C3, e3, h3⟩ := bn0_inv h1
  refine ⟨fun i m H' => ∃ A' C', m = it.n - i ∧ i ≤ it.n ∧ Stp k C1.length (ext A1 C1.length Dl) (C1 ++ [some (.lst [])]) (upd H1 Dl (.lst [])) A' C' H' ∧ StOk k A' C' H' ∧ lc2N it t.M tt mi1 t1.M tt1 te C1.length (wipeD F.sl vs) vs1 (it.n - i) i C' = .ok () C3,
    ⟨it.n, _, _, rfl, Nat.zero_le _, Stp.refl, st2, e3⟩, ?_⟩
  rintro i m H' ⟨A', C', rfl, hi, p, st', h'⟩
  obtain ⟨ha', hl'⟩ := cell_at p (ext_at A1 C1.length Dl) n1
  have low' : LowC C1.length C' := p.low _ (Nat.le_refl _) (Nat.le_of_lt n1) low1
  have pF : Stp k F.fl (ext A1 C1.length Dl) (C1 ++ [some (.lst [])]) (upd H1 Dl (.lst [])) A' C' H' := p.less s1.fl
  obtain ⟨o1, o2⟩ := ok A' C' H' (p2'.trans pF) st'
  cases er : it.n - i with
  | zero =>
    rw [er] at h'
    unfold lc2N at h'
    have e : i = it.n := by omega
    split at h'
    · rename_i hf
      cases h'
      subst e
      exact .inl ⟨o2 hf, le_lcEnd s1.fl Stp.refl st1 (p2'.trans pF) low' st' ha' hl' h3⟩
    · cases h'
  | succ r =>
    rw [er] at h'
    unfold lc2N at h'
    have hlt : i < it.n := by omega
    have hr : it.n - (i + 1) = r := by omega
    cases ei : it.item i C' with
    | none => simp only [ei] at h'; cases h'
    | some d =>
      simp only [ei] at h'
      obtain ⟨g1, g2⟩ := o1 i d hlt ei
      cases eg : t.M d (wipeD F.sl vs) with
      | none => simp only [eg] at h'; cases h'
      | some sl1 =>
        simp only [eg] at h'
        refine .inr ⟨g1, fun H4 => ∃ A4 C4, Stp k C1.length (ext A1 C1.length Dl) (C1 ++ [some (.lst [])]) (upd H1 Dl (.lst [])) A4 C4 H4 ∧ StOk k A4 C4 H4 ∧ lc2N it t.M tt mi1 t1.M tt1 te C1.length (wipeD F.sl vs) vs1 (it.n - (i + 1)) (i + 1) C4 = .ok () C3,
          fun H4 ⟨A4, C4, a, b, c⟩ => ⟨it.n - (i + 1), by omega, A4, C4, rfl, by omega, a, b, c⟩, fun x H'' y => ?_⟩
        obtain ⟨A'', py, sty, rx⟩ := g2 x H'' y
        have py' : Stp k C1.length A' C' H' A'' C' H'' := ⟨py.rep, py.len, fun f _ _ h => h⟩
        have sr : SR k A'' ⟨C1.length, wipeD F.sl vs⟩ C' (L2.wipe σ vs) H'' := ((s1.re (p2.trans (p.trans py')) sty low' (Nat.le_of_lt hl')).wipe vs)
        refine Tgt.of (vs0 := vs) sr rx eg fun σ2 s2 w2 => ⟨by rw [w2 hv, wipe_wipe], A'', ⟨C1.length, sl1⟩, C', s2, ?_⟩
        obtain ⟨b, C5, et, h'⟩ := bn0_out h'
        rw [et]
        intro A5 H5 v5 p5 st5 e5
        have e5 : v5 = b := e5
        subst e5
        have s5 := s2.step p5 st5
        cases v5 with
        | true =>
          rw [if_pos rfl] at h'
          obtain ⟨it1, C6, em, h'⟩ := bn0_out h'
          obtain ⟨u, C7, el, h'⟩ := bn0_out h'
          refine iteT ⟨A5, ⟨C1.length, sl1⟩, C5, s5, ?_⟩
          rw [em]
          intro A6 H6 J1 p6 st6 ok6
          have pall := (p.trans py').trans (p5.trans p6)
          obtain ⟨ha6, hl6⟩ := cell_at pall (ext_at A1 C1.length Dl) n1
          refine lc_inner (fl := C1.length) (n := C1.length) hv1 (Nat.le_refl _) ok6 (s5.step p6 st6) hl6 ha6 el fun A7 H7 p7 st7 => ⟨A7, C7, pall.trans p7, st7, ?_⟩
          rw [hr]
          exact h'
        | false =>
          rw [if_neg (by decide)] at h'
          refine iteF ⟨A5, C5, (p.trans py').trans p5, st5, ?_⟩
          rw [hr]
          exact h'
section
variable {elt tg iter tg1 iter1 : Expr} {ifs ifs1 : List Expr} {scope : Scope} {own : List (Str × Nat)} {vs1 : List Nat} {pos : Pos} {mi mi1 : MI} {t t1 : Tgt} {tt tt1 : MT} {te : ME}
theorem de_lc2 (ow : Bool) (hK : X.K = k.K) (hc : X.calm = true) (hN : X.N.Nodup) (hi : PI X tg iter (LI k W mi)) (ok : BlkOk X.N X.env.scope scope own) (hv : ∀ i ∈ vs1, i ∈ own.map (·.2)) (hv0 : ∀ i ∈ t.slots, i ∈ own.map (·.2)) (hv1 : ∀ i ∈ t1.slots, i ∈ vs1)
    (hg : ∀ (s : Shared) (H : Hp) (C : Addr) (cl : List (Str × Addr)) (fp : List Addr), PG (X.blk s H scope (compEnvC scope cl C X.env) fp) tg (t.T k.K)) (ht : ∀ (s : Shared) (H : Hp) (C : Addr) (cl : List (Str × Addr)) (fp : List Addr), PTs (X.blk s H scope (compEnvC scope cl C X.env) fp) ifs (LT k WF tt))
    (hi1 : ∀ (s : Shared) (H : Hp) (C : Addr) (cl : List (Str × Addr)) (fp : List Addr), PI (X.blk s H scope (compEnvC scope cl C X.env) fp) tg1 iter1 (LI k WF mi1))
    (hg1 : ∀ (s : Shared) (H : Hp) (C : Addr) (cl : List (Str × Addr)) (fp : List Addr), PG (X.blk s H scope (compEnvC scope cl C X.env) fp) tg1 (t1.T k.K)) (ht1 : ∀ (s : Shared) (H : Hp) (C : Addr) (cl : List (Str × Addr)) (fp : List Addr), PTs (X.blk s H scope (compEnvC scope cl C X.env) fp) ifs1 (LT k WF tt1))
    (he : ∀ (s : Shared) (H : Hp) (C : Addr) (cl : List (Str × Addr)) (fp : List Addr), PE (X.blk s H scope (compEnvC scope cl C X.env) fp) elt (LE k WF te)) (hs : ∀ x, foldedSetIterable iter X.env x = pure x := by intro _; rfl) (hs1 : ∀ env x, foldedSetIterable iter1 env x = pure x := by intro _ _; rfl) :
    PE X (.ListComp elt [⟨tg, iter, ifs, 0⟩, ⟨tg1, iter1, ifs1, 0⟩] scope pos) (LE k W (mLc2 ow mi t.M tt mi1 t1.M tt1 te (own.map (·.2)) vs1)) :=
  (pe_lc2 hc hN hi ok hv hg ht hi1 hg1 ht1 he hs hs1).cq fun _ _ _ h => le_lc2 hv0 hv1 h
theorem ds_setLc2 {i : Nat} {y : Str} {py spos : Pos} (ow : Bool) (hK : X.K = k.K) (hc : X.calm = true) (hN : X.N.Nodup) (hy : X.N[i]? = some y) (hyl : X.env.scope.names.lookup y = some .local)
    (hsw : swapsWith (.ListComp elt [⟨tg, iter, ifs, 0⟩, ⟨tg1, iter1, ifs1, 0⟩] scope pos) (some (.Name y py)) spos.line X.env = pure true) (hi : PI X tg iter (LI k W mi)) (ok : BlkOk X.N X.env.scope scope own) (hv : ∀ i ∈ vs1, i ∈ own.map (·.2)) (hv0 : ∀ i ∈ t.slots, i ∈ own.map (·.2)) (hv1 : ∀ i ∈ t1.slots, i ∈ vs1)
    (hg : ∀ (s : Shared) (H : Hp) (C : Addr) (cl : List (Str × Addr)) (fp : List Addr), PG (X.blk s H scope (compEnvC scope cl C X.env) fp) tg (t.T k.K)) (ht : ∀ (s : Shared) (H : Hp) (C : Addr) (cl : List (Str × Addr)) (fp : List Addr), PTs (X.blk s H scope (compEnvC scope cl C X.env) fp) ifs (LT k WF tt))
    (hi1 : ∀ (s : Shared) (H : Hp) (C : Addr) (cl : List (Str × Addr)) (fp : List Addr), PI (X.blk s H scope (compEnvC scope cl C X.env) fp) tg1 iter1 (LI k WF mi1))
    (hg1 : ∀ (s : Shared) (H : Hp) (C : Addr) (cl : List (Str × Addr)) (fp : List Addr), PG (X.blk s H scope (compEnvC scope cl C X.env) fp) tg1 (t1.T k.K)) (ht1 : ∀ (s : Shared) (H : Hp) (C : Addr) (cl : List (Str × Addr)) (fp : List Addr), PTs (X.blk s H scope (compEnvC scope cl C X.env) fp) ifs1 (LT k WF tt1))
    (he : ∀ (s : Shared) (H : Hp) (C : Addr) (cl : List (Str × Addr)) (fp : List Addr), PE (X.blk s H scope (compEnvC scope cl C X.env) fp) elt (LE k WF te)) (hs : ∀ x, foldedSetIterable iter X.env x = pure x := by intro _; rfl) (hs1 : ∀ env x, foldedSetIterable iter1 env x = pure x := by intro _ _; rfl) :
    PS X (.Assign [.Name y py] (.ListComp elt [⟨tg, iter, ifs, 0⟩, ⟨tg1, iter1, ifs1, 0⟩] scope pos) spos) (LS k W (sAsg (mLc2 ow mi t.M tt mi1 t1.M tt1 te (own.map (·.2)) vs1) (gN i))) :=
  (ps_setLc2 hc hN hy hyl hsw hi ok hv hg ht hi1 hg1 ht1 he hs hs1).cq fun _ _ _ h => le_lc2 hv0 hv1 (ls_asg2 (t := .nm i) h)
end
/-! ### xs[i] += e -/
def rGetL : V → V → Hp → VK → Prop := fun o i H Q => ∃ p xs n v, o = .ref p ∧ i = .int n ∧ H p = some (.lst xs) ∧ 0 ≤ n ∧ xs[n.toNat]? = some v ∧ Q v H
theorem pget_L : PGet X rGetL := by
  intro pins s σ H o i ov iv Q I ro ri h
  obtain ⟨p, xs, n, v, rfl, rfl, hp, h0, hx, q⟩ := h
  cases ro
  obtain ⟨t, rfl⟩ := ri
  obtain ⟨its, r, pl, hz⟩ := I.list (Or.inl (Or.inl hp))
  obtain ⟨w, ew, rw'⟩ := r.get hx
  have hl := r.length
  have hn := line63
  have hlt : n.toNat < xs.length := (List.getElem?_eq_some_iff.mp hx).1
  exact wpAny_getItem_list pl.isList h0 (by omega) (by simpa using ew) ⟨v, H, I, rw', q⟩
theorem ls_augL {o : Int → Int → Int} {mo mi me : ME} (h : LS k W (sAugL o mo mi me) E σ H) : tAugS (LE k W mo) (LE k W mi) (LE k W me) rGetL (ipI o) rSetL E σ H := by
  obtain ⟨A, F, C, s, h⟩ := h
  refine ⟨A, F, C, s, (AftS.bnd (rel := RepD k) s h).mono fun dl C1 A1 H1 l p1 st1 rl h1 => ?_⟩
  have s1 := s.step p1 st1
  refine ⟨A1, F, C1, s1, (AftS.bnd (rel := RepD k) s1 h1).mono fun dx C2 A2 H2 x p2 st2 rx h2 => ?_⟩
  have s2 := s1.step p2 st2
  have rl2 := p2.rep _ _ rl
  cases rx with
  | int n =>
    cases ec : cL dl C2 with
    | none => simp only [ec] at h2; exact h2.elim
    | some q =>
      obtain ⟨i, ds⟩ := q
      simp only [ec] at h2
      obtain ⟨rfl, rfl, hi, vs, hv, rvs⟩ := cL_at st2 rl2 ec
      split at h2
      · rename_i h0
        split at h2
        · rename_i a ea
          obtain ⟨v, ev, rv⟩ := rvs.get ea
          cases rv
          refine ⟨A2 i, vs, n, _, rfl, rfl, hv, h0, ev, A2, F, C2, s2, (AftS.bnd (rel := RepD k) s2 h2).mono fun dv C3 A3 H3 w p3 st3 rw3 h3 => ?_⟩
          have s3 := s2.step p3 st3
          cases rw3 with
          | int b =>
            cases ec3 : cL (.cell i) C3 with
            | none => simp only [ec3] at h3; exact h3.elim
            | some q =>
              obtain ⟨i', es⟩ := q
              simp only [ec3] at h3
              obtain ⟨ei, ev3, hi3, ws, hw, rws⟩ := cL_at st3 (p3.rep _ _ rl2) ec3
              cases ei
              cases ej : ixN es.length n with
              | none => simp only [ej] at h3; exact h3.elim
              | some j =>
                simp only [ej] at h3
                cases ew : wr F.fl i (.lst (es.set j (.int (o a b)))) C3 with
                | none => simp only [ew] at h3; exact h3.elim
                | some C4 =>
                  simp only [ew] at h3
                  obtain ⟨q1, q2⟩ := write_L st3 hi3 (rws.set (.int (o a b)) j) ew
                  exact ⟨a, b, rfl, rfl, A3 i, ws, n, j, ev3, rfl, hw, by rw [rws.length]; exact ej, h3 A3 σ _ q1 (s3.step q1 q2)⟩
          | _ => exact h3.elim
        · exact h2.elim
      · exact h2.elim
  | _ => exact h2.elim
theorem ds_augL {o i e : Expr} {op : Operator} {f : Int → Int → Int} {tpos pos : Pos} {mo mi me : ME} (hp : PIp X op (ipI f)) (ho : PE X o (LE k W mo)) (hi : PE X i (LE k W mi)) (he : PE X e (LE k W me))
    (ha : ∀ ov iv new, augStore i ov iv new = (do holding [new, ov, iv] (setItem ov iv new); release [new, ov, iv] []; pure .next) := by intros; rfl) : PS X (.AugAssign (.Subscript o i tpos) op e pos) (LS k W (sAugL f mo mi me)) :=
  (ps_augS ho hi pget_L he hp set_list ha).cq fun _ _ _ h => ls_augL h
/-! ### x in a tuple or list of data -/
end
end CT
set_option maxHeartbeats 4000000
/-! DLD: list(range(..)), sorted(..), dict(..). -/
namespace CT
open PySem L2 PySem.Spec PyProof.Rows
/-! ### sorted -/
theorem vals_each {β : Type} {f : β → V} : ∀ {bs : List β} {us : List Value}, PySem.W.EachIs (fun u b => RelV (f b) u) us bs → Vals (bs.map f) us
  | _, _, .nil => .nil
  | _, _, .cons r t => .cons r (vals_each t)
theorem each_in {α β : Type} {R S : α → β → Prop} : ∀ {us : List α} {bs : List β}, PySem.W.EachIs R us bs → (∀ u b, b ∈ bs → R u b → S u b) → PySem.W.EachIs S us bs
  | _, _, .nil, _ => .nil
  | _, _, .cons r t, h => .cons (h _ _ (List.mem_cons_self ..) r) (each_in t fun u b hb => h u b (List.mem_cons_of_mem _ hb))
section
variable {X : Cx} {k : Cn} {W : WX} {σ : L2.St} {H : Hp} {Q : VK}
/-- sorted(d), keys that are tuples -/
def kP : Key → PyData
  | .inl i => .int i
  | .inr s => .str s
def kPs (ks : List Key) : PyData := .tuple (ks.map kP)
def rSortT : List V → Hp → VK → Prop := fun xs H Q => ∃ (a : Addr) (kvs : List (List Key × V)), xs = [.ref a] ∧ H a = some (.dT kvs) ∧ PySem.W.AllAlike (kvs.map fun x => kPs x.1) ∧ PySem.W.Sortable (kvs.map fun x => kPs x.1) ∧
  ∀ p bs, H p = none → Paired (fun (q : List Key × V) b => H b = some (.tup (q.1.map kV))) kvs bs → Q (.ref p) (upd H p (.lst (((kvs.zip bs).mergeSort (PySem.W.dataLe false fun x => kPs x.1.1)).map fun x => V.ref x.2)))
theorem kP_dps {K : PySem.W.Frag} {H : Hp} : ∀ ks : List Key, DpAll K H (ks.map kV) (ks.map kP)
  | [] => .nil
  | .inl i :: r => .cons (.int i) (kP_dps r)
  | .inr s :: r => .cons (.str s) (kP_dps r)
theorem kP_depth : ∀ ks : List Key, PyData.depthAll (ks.map kP) = 0
  | [] => by simp [PyData.depthAll]
  | .inl i :: r => by
    show PyData.depthAll (.int i :: r.map kP) = 0
    rw [PyData.depthAll, kP_depth r]
    simp [PyData.depth]
  | .inr i :: r => by
    show PyData.depthAll (.str i :: r.map kP) = 0
    rw [PyData.depthAll, kP_depth r]
    simp [PyData.depth]
theorem paired_zip {α β : Type} {F : α → β → Prop} : ∀ {l : List α} {m : List β}, Paired F l m → ∀ x ∈ l.zip m, F x.1 x.2
  | _, _, .nil, x, hx => by simp at hx
  | _, _, .cons h t, x, hx => by
    rw [List.zip_cons_cons, List.mem_cons] at hx
    rcases hx with rfl | hx
    · exact h
    · exact paired_zip t x hx
theorem zip_fst {α β : Type} {F : α → β → Prop} : ∀ {l : List α} {m : List β}, Paired F l m → (l.zip m).map (·.1) = l ∧ (l.zip m).map (·.2) = m
  | _, _, .nil => ⟨rfl, rfl⟩
  | _, _, .cons h t => by
    obtain ⟨a, b⟩ := zip_fst t
    simp [a, b]
theorem each_refs {α : Type} : ∀ {l : List (α × Addr)}, PySem.W.EachIs (fun u (x : α × Addr) => u = Value.ref x.2) (l.map fun x => Value.ref x.2) l
  | [] => .nil
  | _ :: _ => .cons rfl each_refs
theorem pr_refs {H : Hp} {kvs : List (List Key × V)} {ks : List (List Key × Addr × Value)} (pr : Paired (fun (p : List Key × V) (q : List Key × Addr × Value) => p.1 = q.1 ∧ H q.2.1 = some (.tup (p.1.map kV)) ∧ RelV p.2 q.2.2) kvs ks) : Paired (fun (q : List Key × V) b => H b = some (.tup (q.1.map kV))) kvs (ks.map fun x => x.2.1) := by
  induction pr with
  | nil => exact Paired.nil
  | cons h t ih => exact Paired.cons h.2.1 ih
theorem reads_kP {h' : Heap} : ∀ (l : List Key) {its : List Value} {as : List Addr}, ReadsAll h' its (l.map kP) as → as = []
  | [], _, _, ra => by
    have ra' : ReadsAll h' _ [] _ := ra
    cases ra'
    rfl
  | x :: l, _, _, ra => by
    have ra' : ReadsAll h' _ (kP x :: l.map kP) _ := ra
    cases ra' with
    | cons r1 r2 =>
      have e := reads_kP l r2
      subst e
      cases x with
      | inl i =>
        have r1' : Reads h' _ (.int i) _ := r1
        cases r1'
        rfl
      | inr i =>
        have r1' : Reads h' _ (.str i) _ := r1
        cases r1'
        rfl
theorem cr_sortT (hcalm : X.calm = true) (hu : X.A.units + 200 < cLine) : CallR X (.builtin "sorted") rSortT := by
  intro pins s σ H xs us Q I r h
  obtain ⟨d, kvs, rfl, hd, hal, hk, q⟩ := h
  obtain ⟨u, rfl, ru⟩ := vals1 r
  obtain rfl : u = Value.ref d := ru
  obtain ⟨z, hs, ks, pr, o, es, ep, ho, hx, hdt, he, hn⟩ := (show ObjOk X.prog X.w H s.heap d (.dT kvs) from I.hok d _ hd)
  have l1 : es.size = ks.length := size_of_entries he
  have l2 : kvs.length = ks.length := Paired.length pr
  refine Calls.call_function_entry PyProof.Rows.kind_sorted PyProof.Rows.plain_sorted PyProof.Rows.entry_sorted (PyProof.Rows.args_sorted1 _) ?_
  unfold Builtin.«sorted»
  refine wpAny_bind (m := checkCount "sorted" 1 1 _) (wpAny_pure ?_)
  refine wpAny_bind (PySem.W.kdu_collect (A := X.A.in1) (kdl_raw hs hx hdt) (I.ok.hd hcalm) ho (by omega) fun h' tk acc hk' hacc => ?_)
  have ea : acc.toList = ks.map fun x => Value.ref x.2.1 := by
    have hl : acc.toList.length = ks.length := by rw [Array.length_toList, hacc.1]; exact l1
    apply List.ext_getElem?
    intro j
    rw [List.getElem?_map]
    cases hj : acc.toList[j]? with
    | none =>
      have h1 := List.getElem?_eq_none_iff.mp hj
      rw [List.getElem?_eq_none (by omega)]
      rfl
    | some v =>
      obtain ⟨en, hen, hv⟩ := hacc.2 j v (by rw [← Array.getElem?_toList]; exact hj)
      have qe := entry_at he j
      rw [hen] at qe
      cases hb : ks[j]? with
      | none =>
        rw [hb] at qe
        exact nomatch (show some en = none from qe)
      | some b =>
        rw [hb] at qe
        have e2 : en = entryOfKey (tupleKind (mixKind X.prog X.w)) b := Option.some.inj qe
        rw [hv, e2]
        rfl
  have prA : Paired (fun (q : List Key × V) b => H b = some (.tup (q.1.map kV))) kvs (ks.map fun x => x.2.1) := pr_refs pr
  obtain ⟨z1, z2⟩ := zip_fst prA
  have I1 : Inv X pins σ H { s with heap := h', toks := tk } := I.kept hk'
  have hlen : acc.toList.length ≤ sizeLine := by rw [ea, List.length_map]; omega
  refine wpAny_bind (wpAny_newList ?_ hlen)
  have hoL : (h'.push (seqObj "list" acc.toList.toArray 0)).get? h'.objs.size = some (seqObj "list" acc.toList.toArray 0) := Heap.get?_push_size _ rfl
  show wpAny _ _ _ _ _ { s with heap := h'.push (seqObj "list" acc.toList.toArray 0), toks := tk }
  let zs := kvs.zip (ks.map fun x => x.2.1)
  have e0 : acc.toList = zs.map fun x => Value.ref x.2 := by
    rw [ea]
    have := congrArg (List.map Value.ref) z2
    rw [List.map_map, List.map_map] at this
    exact this.symm
  have each0 : PySem.W.EachIs (fun u (x : (List Key × V) × Addr) => u = Value.ref x.2) acc.toList zs := by rw [e0]; exact each_refs
  have each1 : PySem.W.EachIs (fun u (x : (List Key × V) × Addr) => RelV (V.ref x.2) u) acc.toList zs := each_in each0 fun u b _ e => e
  have ez : zs.map (fun x => kPs x.1.1) = kvs.map fun x => kPs x.1 := by
    have := congrArg (List.map fun x : List Key × V => kPs x.1) z1
    rw [List.map_map] at this
    exact this
  have each2 : PySem.W.EachIs (fun u (x : (List Key × V) × Addr) => ∃ as, Reads (h'.push (seqObj "list" acc.toList.toArray 0)) u (kPs x.1.1) as ∧ h'.objs.size ∉ as) acc.toList zs := each_in each0 fun u b hb e => by
    subst e
    have hb' := paired_zip prA b hb
    obtain ⟨_, its, rv, ot, ho1, ho2, n, ho3⟩ := (show ObjOk X.prog X.w H h' b.2 (.tup (b.1.1.map kV)) from I1.hok _ _ hb')
    obtain ⟨as, ra⟩ := Dp.readsAll I1 (b.1.1.map kP) _ _ (kP_dps (K := X.K) (H := H) b.1.1) rv
    have nil_as : as = [] := reads_kP b.1.1 ra
    subst nil_as
    refine ⟨[], PyProof.Rows.Reads.keeps (fun b o q => Heap.get?_push_of_some _ q) (.tuple ho1 ho2 ho3 (by simpa using ra)), by simp⟩
  have hL : zs.length ≤ sizeLine := by
    have := congrArg List.length e0
    rw [List.length_map] at this
    omega
  refine wpAny_bind (wpAny_holding (PySem.W.list_sort_data (s := { s with heap := h'.push (seqObj "list" acc.toList.toArray 0), toks := tk }) (R := fun u (x : (List Key × V) × Addr) => RelV (V.ref x.2) u) (enc := fun x => kPs x.1.1) (bs := zs) hoL each1 each2 (by rw [ez]; exact hal) (by rw [ez]; exact hk) hL (fun b hb => ?_) fun out hout eo => ?_))
  · have : (kPs b.1.1).depth ≤ 1 := by
      unfold kPs
      rw [PyData.depth, kP_depth]
      omega
    show X.A.units + 1 + 1 + _ < _
    omega
  · obtain ⟨e', he'⟩ := PyProof.Rows.sortedHeap_at (vs := acc.toList) (out := out.toArray) hoL
    refine wpAny_pure ⟨_, rfl, .ref h'.objs.size, _, I1.laid (t' := tk) (o := .lst ((zs.mergeSort (PySem.W.dataLe false fun x => kPs x.1.1)).map fun x => V.ref x.2)) (fun b u e => ?_) (Nat.le_refl _) ⟨?_, out, e', vals_each eo, he'⟩, rfl, q _ _ (I1.hok.fresh (Nat.le_refl _)) prA⟩
    · have hb : b < h'.objs.size := Heap.lt_size e
      rw [PyProof.Rows.sortedHeap_old (Nat.ne_of_lt hb) (by rw [size_push']; exact Nat.lt_succ_of_lt hb)]
      exact Heap.get?_push_of_some _ e
    · rw [List.length_map, List.length_mergeSort]
      exact hL
end
end CT
set_option maxHeartbeats 4000000
/-! DLE: sorted and dict(d) over data. -/
namespace CT
open PySem L2 PySem.Spec PyProof.Rows
def tup1 : PyData → Bool
  | .tuple (_ :: _) => true
  | _ => false
def nTup : PyData → Bool
  | .tuple _ => false
  | .none => false
  | _ => true
def srtb (ps : List PyData) : Bool := (ps.all fun d => ps.all fun e => PySem.W.alike d e) && (ps.all tup1 || ps.all nTup)
theorem srtb_ok {ps : List PyData} (h : srtb ps = true) : PySem.W.AllAlike ps ∧ PySem.W.Sortable ps := by
  simp only [srtb, Bool.and_eq_true, Bool.or_eq_true, List.all_eq_true] at h
  refine ⟨fun d hd e he => h.1 d hd e he, ?_⟩
  rcases h.2 with h | h
  · refine .inl fun d hd => ?_
    have := h d hd
    cases d with
    | tuple xs =>
      cases xs with
      | nil => simp [tup1] at this
      | cons x r => exact ⟨x, r, rfl⟩
    | _ => simp [tup1] at this
  · refine .inr fun d hd => ?_
    have := h d hd
    cases d with
    | tuple xs => simp [nTup] at this
    | none => simp [nTup] at this
    | _ => exact ⟨by simp, by simp⟩
def kyD : Key → D
  | .inl i => .int i
  | .inr s => .str s
def oSortD (own : Bool) : OA := fun xs C => match xs with
  | [x] => (match vD x C with
    | some (ks, _) => if srtb (ks.map kPs) = true then some (mkL own ((ks.mergeSort (PySem.W.dataLe false kPs)).map fun k => .tup (k.map kyD)) C) else none
    | none => none)
  | _ => none
section
variable {X : Cx} {k : Cn} {W : WX} {σ : L2.St} {H : Hp} {Q : VK} {A : Nat → Addr} {C : Store}
theorem ky_rep : ∀ l : List Key, RepL k A C H (l.map kV) (l.map kyD)
  | [] => .nil
  | .inl i :: r => .cons (.int i) (ky_rep r)
  | .inr s :: r => .cons (.str s) (ky_rep r)
theorem tup_nl (st : StOk k A C H) {b : Addr} {vs : List V} (h : H b = some (.tup vs)) : ¬ Live A C b := by
  rintro ⟨i, c, hc, rfl⟩
  have := st.at_ i c hc
  cases c with
  | lst ds => obtain ⟨ws, e, _⟩ := this; rw [h] at e; cases e
  | dT ks ds => obtain ⟨ws, e, _⟩ := this; rw [h] at e; cases e
  | ins c ds => obtain ⟨dx, ws, e, _⟩ := this; rw [h] at e; cases e
theorem repL_of2 {α : Type} {f : α → V} {g : α → D} : ∀ {l : List α}, (∀ x ∈ l, Rep k A C H (f x) (g x)) → RepL k A C H (l.map f) (l.map g)
  | [], _ => .nil
  | x :: l, h => .cons (h x (List.mem_cons_self ..)) (repL_of2 fun y hy => h y (List.mem_cons_of_mem _ hy))
theorem d_sortD {own : Bool} : ApD k rSortT (oSortD own) := by
  intro fl A C H x dx d C' Q hf hl st rx e q
  cases rx with
  | nil => cases e
  | cons r t =>
    cases t with
    | cons _ _ => cases e
    | nil =>
      rename_i v0 d0
      simp only [oSortD] at e
      split at e
      · rename_i ks ds ev
        split at e
        · rename_i hb
          obtain ⟨a, kvs, rfl, ha, hk, rv⟩ := vD_at st r ev
          obtain ⟨al, so⟩ := srtb_ok hb
          have em : kvs.map (fun x => kPs x.1) = ks.map kPs := by rw [← hk, List.map_map]; rfl
          refine ⟨a, kvs, rfl, ha, by rw [em]; exact al, by rw [em]; exact so, fun p bs hp pr => ?_⟩
          obtain ⟨z1, z2⟩ := zip_fst pr
          have e4 : ((kvs.zip bs).mergeSort (PySem.W.dataLe false fun x => kPs x.1.1)).map (fun x => x.1.1) = ks.mergeSort (PySem.W.dataLe false kPs) := by
            have em2 := List.map_mergeSort (r := PySem.W.dataLe false fun x : (List Key × V) × Addr => kPs x.1.1) (s := PySem.W.dataLe false kPs) (f := fun x : (List Key × V) × Addr => x.1.1) (l := kvs.zip bs) (fun a _ b _ => rfl)
            rw [em2]
            congr 1
            rw [← hk]
            have := congrArg (List.map fun x : List Key × V => x.1) z1
            rw [List.map_map] at this
            exact this
          have rr : RepL k A C H (((kvs.zip bs).mergeSort (PySem.W.dataLe false fun x => kPs x.1.1)).map fun x => V.ref x.2) ((ks.mergeSort (PySem.W.dataLe false kPs)).map fun k => .tup (k.map kyD)) := by
            rw [← e4, List.map_map]
            refine repL_of2 fun y hy => ?_
            have hy' := paired_zip pr y (List.mem_mergeSort.mp hy)
            exact .tup (tup_nl st hy') hy' (ky_rep _)
          obtain ⟨A2, w1, w2, w3⟩ := fresh_L (own := own) hf st rr hp
          have e1 := Option.some.inj e
          rw [e1] at w1 w2 w3
          exact q A2 _ _ w1 w2 w3
        · cases e
      · cases e
end
/-! ### dict(d), keys that are tuples -/
end CT
set_option maxHeartbeats 4000000
/-! DLF: dict(d) over data; enumerate. -/
namespace CT
open PySem L2 PySem.Spec PyProof.Rows
/-! ### a list of unlike numbers -/
def BT.look (x : Nat) : BT → Bool
  | .lf => false
  | .nd l y r => bif Nat.blt x y then l.look x else bif Nat.blt y x then r.look x else true
theorem nodup_map_on {α β : Type} {f : α → β} : ∀ {l : List α}, l.Nodup → (∀ x ∈ l, ∀ y ∈ l, f x = f y → x = y) → (l.map f).Nodup
  | [], _, _ => List.nodup_nil
  | x :: l, h, i => by
    obtain ⟨h1, h2⟩ := List.nodup_cons.mp h
    refine List.nodup_cons.mpr ⟨fun hm => ?_, nodup_map_on h2 fun a ha b hb => i a (List.mem_cons_of_mem _ ha) b (List.mem_cons_of_mem _ hb)⟩
    obtain ⟨y, hy, e⟩ := List.mem_map.mp hm
    have := i y (List.mem_cons_of_mem _ hy) x (List.mem_cons_self ..) e
    exact h1 (this ▸ hy)
/-! ### enumerate(tuple) -/
section
variable {prog : Program} {w : World} {A : Around} {E : Value → Shared → Prop} {s : Shared}
theorem meets_enum1 {v : Value} {o : Obj} {H : Heap → Prop} (B : Begins v o H) :
    Meets (Builtin.«enumerate.__new__» ⟨[.type "enumerate", v], []⟩) (fun _ R s => H s.heap ∧
      R (.ok (.ret (.ref (s.heap.push o).objs.size))) { s with heap := (s.heap.push o).push { cls := .type "enumerate", data := .fields #[.none, .bool false, .ref s.heap.objs.size, rawInt 0, .none, .none] } }) :=
  .of_wp fun prog w A R s h => by
    obtain ⟨hp, g, d, tk, os⟩ := s; obtain ⟨h1, h⟩ := h
    have hsub := sub_enumerate
    have q1 : ∀ {A' : Around} {E : Value → Shared → Prop} {Q : Value → Shared → Prop}, Q (.ref hp.objs.size) ⟨hp.push o, g, d, tk, os⟩ → wpAny (model prog w) A' (pyIter v) Q E ⟨hp, g, d, tk, os⟩ :=
      fun q => B.iter prog w _ _ ⟨hp, g, d, tk, os⟩ _ h1 q
    wp_walk using q1
    refine wpAny_stack_any fun st => wpAny_pure ?_
    split
    · rename_i c _ _ _ _ _
      cases (c == Value.type "enumerate")
      · wp_walk using q1
        exact ⟨_, rfl, h⟩
      · wp_walk using q1
        exact ⟨_, rfl, h⟩
    · wp_walk using q1
      exact ⟨_, rfl, h⟩
theorem call_enum1 {v : Value} {o : Obj} {H : Heap → Prop} {Q : Value → Shared → Prop} (B : Begins v o H) (h1 : H s.heap)
    (h : ∀ h', IsEnum h' (s.heap.objs.size + 1) s.heap.objs.size 0 .none → h'.get? s.heap.objs.size = some o → (∀ b o, s.heap.get? b = some o → h'.get? b = some o) → Q (.ref (s.heap.objs.size + 1)) { s with heap := h' }) :
    wpAny (model prog w) A (call (.type "enumerate") [v]) Q E s := by
  refine callType_new F.called_enumerate (by decide) (F.typeCall_enumerate_1 _) (F.newCall_enumerate_1 _) (fun obj => F.args_object_init_2 obj _) F.entry_enumerate_new (meets_enum1 B) ⟨h1, ?_⟩
  have hz : (s.heap.push o).objs.size = s.heap.objs.size + 1 := Heap.size_push ..
  show _ ∧ _
  rw [hz]
  have he : IsEnum ((s.heap.push o).push { cls := .type "enumerate", data := .fields #[.none, .bool false, .ref s.heap.objs.size, rawInt 0, .none, .none] }) (s.heap.objs.size + 1) s.heap.objs.size 0 .none := by
    have := Heap.get?_push_size (s.heap.push o) (o := { cls := .type "enumerate", data := .fields #[.none, .bool false, .ref s.heap.objs.size, rawInt 0, .none, .none] }) rfl
    rw [hz] at this; exact this
  exact ⟨⟨_, he, rfl⟩, h _ he (Heap.get?_push_of_some _ (Heap.get?_push_size _ B.free)) fun b o x => Heap.get?_push_of_some _ (Heap.get?_push_of_some _ x)⟩
end
def IteT (K : PySem.W.Frag) (a : Addr) : It :=
  ⟨fun i H => ∃ (xs : List V) (x : V), SqT K H a xs ∧ xs[i]? = some x, fun i H v H' => ∃ T x, v = .ref T ∧ H T = none ∧ H' = upd H T (.tup [.int (i : Nat), x]) ∧ ∀ xs, SqT K H a xs → xs[i]? = some x, fun i H => ∃ xs : List V, SqT K H a xs ∧ xs.length ≤ i⟩
theorem enumT_end {prog : Program} {w : World} {A : Around} {E : Value → Shared → Prop} {s : Shared} {e it t : Addr} {i : Nat} {c : Int} {items : Array Value} {old : Value} {Q : Option Value → Shared → Prop} (hh : A.handled = none)
    (he : IsEnum s.heap e it c old) (hit : s.heap.IsTupleIter it t i) (ht : s.heap.IsTuple t items) (hx : items[i]? = none) (hQ : ∀ h', Heap.ExtBut it s.heap h' → Q none { s with heap := h' }) : wpAny (model prog w) A (pyNext (.ref e)) Q E s := by
  have hT : s.TypeIs (.ref e) "enumerate" := ⟨_, he, rfl⟩
  unfold pyNext
  refine wpAny_bind (wpAny_attempt (wpAny_callSpecial?_slot (name := Str.ofString "__next__") hT F.slot_enumerate_next
    (wpAny_call_entry F.slot_enumerate_next hT F.entry_enumerate_next ?_ (F.args_enumerate_next_1 _))))
  show wpAny _ _ (field (.ref e) 2 >>= _) _ _ _
  refine wpAny_bind (wpAny_field he rfl (x := .ref it) rfl ?_)
  refine wpAny_bind (wpAny_nextOf_tuple_end (show A.in1.handled = none from hh) hit ht hx fun h' x he' hx' => ?_)
  obtain ⟨o, ho, hc⟩ := hx'
  refine wpAny_bind (wpAny_isInstance (T := "StopIteration") (b := true) ⟨o, ho, hc⟩ isSubtype_stop ?_)
  exact wpAny_pure (hQ _ he')
theorem turn_enumT {P : Program} {w : World} {K : PySem.W.Frag} {elts : List Expr} {kk : Nat} {tpos : Pos} (a e it : Addr) :
    Turn P w K (.Tuple elts kk tpos) (IteT K a) [e, it] e (fun i h => (∃ old, IsEnum h e it ((i : Nat) : Int) old) ∧ h.IsTupleIter it a i ∧ e ≠ it ∧ a ≠ it ∧ a ≠ e) where
  mem := by simp
  obj := fun i h st b hb => by
    obtain ⟨⟨old, he⟩, ⟨o, ho, hc, hd⟩, _⟩ := st
    have e' : b = e ∨ b = it := by simpa using hb
    rcases e' with z | z
    · rw [z]; exact ⟨_, he, fun v q => nomatch q⟩
    · rw [z]; exact ⟨o, ho, fun v q => by rw [hd] at q; cases q⟩
  keep := fun i h h' st k => let ⟨⟨old, he⟩, hi, hne⟩ := st; ⟨⟨old, k e (by simp) _ he⟩, hi.at fun o q => k it (by simp) o q, hne⟩
  item := by
    intro X hP hw hK hc i pins s σ H E I hf st hg
    subst hP hw hK
    obtain ⟨⟨old, he⟩, hit, hne, hai, hae⟩ := st
    obtain ⟨xs, x, hq, hx⟩ := hg
    obtain ⟨its, rv, p, hz⟩ := I.tuple hq
    have hlt : i < its.toArray.size := by
      have h1 := rv.length
      have h2 := (List.getElem?_eq_some_iff.mp hx).1
      simp
      omega
    have hel : e < s.heap.objs.size := Heap.lt_size he
    have hil : it < s.heap.objs.size := by obtain ⟨_, q, _⟩ := hit; exact Heap.lt_size q
    have D := Draws.tuple (prog := X.prog) (w := X.w) (A := X.A.in1) (I.ok.hd hc) it a hai its.toArray
    refine wpAny_pyNext_enum_itemD D he ⟨hit, p⟩ hlt hne (by simp; exact ⟨hne, fun z => hae z.symm⟩) fun u h' tk hu ho hit' hT hsz hk => ?_
    have hu' : its[i]? = some u := by simpa using hu
    obtain ⟨u2, hu2, ru⟩ := rv.get hx
    have e2 : u2 = u := by
      rw [hu'] at hu2
      exact (Option.some.inj hu2).symm
    subst e2
    refine ⟨_, rfl, wpAny_letOwnedTupleGo_enum (s := { s with heap := h', toks := tk + 1 }) ho fun h'' he' sb => ?_⟩
    have hT2 : h''.get? s.heap.objs.size = some { cls := .type "tuple", data := .seq #[.int i tk, u2] } := (sb.2 _ (Nat.ne_of_gt hel)).trans hT
    have new : ObjOk X.prog X.w (upd H s.heap.objs.size (.tup [.int (i : Nat), x])) h'' s.heap.objs.size (.tup [.int (i : Nat), x]) :=
      ⟨by show 2 ≤ sizeLine; decide, [.int i tk, u2], .cons ⟨_, rfl⟩ (.cons ru .nil), ⟨_, hT2, rfl, _, rfl⟩⟩
    have I1 : Inv X pins σ (upd H s.heap.objs.size (.tup [.int (i : Nat), x])) { s with heap := h'', toks := tk + 1 } :=
      I.turnedNew (ch := [e, it]) (fun b ob hb q => (sb.2 b (fun z => hb (by simp [z]))).trans (hk b ob (fun z => hb (by simp [z])) (fun z => hb (by simp [z])) q)) hf (Nat.le_refl _) new
    refine ⟨.ref s.heap.objs.size, _, I1, rfl, ⟨_, x, rfl, I.hok.fresh (Nat.le_refl _), rfl, fun ys hy => by rw [I.tuple_inj hy hq]; exact hx⟩, ⟨⟨u2, ?_⟩, hit'.1.at fun o q => (sb.2 it (Ne.symm hne)).trans q, hne, hai, hae⟩, fun b hb => ?_⟩
    · have e1 : ((i + 1 : Nat) : Int) = (i : Int) + 1 := by omega
      rw [e1]; exact he'
    · have hb' : b < s.heap.objs.size := by
        have e' : b = e ∨ b = it := by simpa using hb
        rcases e' with z | z
        · rw [z]; exact hel
        · rw [z]; exact hil
      rw [upd_ne (Nat.ne_of_lt hb')]
      exact (hf b hb).1
  done := by
    intro X hP hw hK hc i pins s σ H E I hf st hg
    subst hP hw hK
    obtain ⟨⟨old, he⟩, hit, hne, hai, hae⟩ := st
    obtain ⟨xs, hq, hx⟩ := hg
    obtain ⟨its, rv, p, hz⟩ := I.tuple hq
    obtain ⟨f0, f1, f2, f3, f4, f5⟩ := hf it (by simp)
    have hl := rv.length
    exact enumT_end (I.ok.hd hc) he hit p (by simp; omega) fun h' eb => ⟨rfl, I.turned (t' := s.toks) (fun b o hb q => eb b o hb q) f0 f1 f3 f4 f5⟩
  self := fun A i s Q E st h => let ⟨⟨_, he⟩, _⟩ := st; wpAny_pyIter_enum he h
def iEnumA (K : PySem.W.Frag) (ta : TA) : TI := fun σ H R => ta σ H fun vs H1 => ∃ a, vs = [.ref a] ∧ (((∃ xs, SqL K H1 a xs) ∧ R (Ite K a) H1) ∨ ((∃ xs, SqT K H1 a xs) ∧ R (IteT K a) H1))
theorem pi_enumA {X : Cx} {e : Expr} {ta : TA} {p pos tpos : Pos} {elts : List Expr} {kk : Nat} (hg : Gl X "enumerate") (hm : X.mg "enumerate" = none) (ha : PA X [e] ta) (hs : starEach [e] X.env = [(false, eval e X.env)] := by rfl) :
    PI X (.Tuple elts kk tpos) (.Call (.Name "enumerate" p) [e] [] pos) (iEnumA X.K ta) := by
  refine ⟨fun pins s σ H R I h => ?_⟩
  refine Call_ (ld_blt I hg hm boot_enumerate (PyProof.Rows.callWith_type1 (thn (ha.run pos pins s σ H _ I h) fun us s1 ⟨vs, H1, I1, r1, q1⟩ => ?_) hs rfl))
  have fp2 : ∀ b ∈ [s1.heap.objs.size + 1, s1.heap.objs.size], FpOk X pins H1 b := fun b hb => by
    have e' : b = s1.heap.objs.size + 1 ∨ b = s1.heap.objs.size := by simpa using hb
    have hle : s1.heap.objs.size ≤ b := by omega
    exact I1.fpOk hle (I1.hok.fresh hle)
  obtain ⟨a, ex, ⟨⟨xs, hq⟩, q⟩ | ⟨⟨xs, hq⟩, q⟩⟩ := q1
  · subst ex
    obtain ⟨u, rfl, ru⟩ := vals1 r1
    obtain rfl : u = Value.ref a := ru
    obtain ⟨its, rv, p', hz⟩ := I1.list hq
    refine call_enumerate_list p'.isList fun h' he hit hsz hk => wpAny_pyIter_enum he ?_
    exact ⟨s1.heap.objs.size + 1, [s1.heap.objs.size + 1, s1.heap.objs.size], _, _, H1, rfl, I1.kept (t' := s1.toks) hk, turn_enum a (s1.heap.objs.size + 1) s1.heap.objs.size, ⟨⟨.none, he⟩, hit, Nat.succ_ne_self _⟩, fp2, q⟩
  · subst ex
    obtain ⟨u, rfl, ru⟩ := vals1 r1
    obtain rfl : u = Value.ref a := ru
    obtain ⟨its, rv, p', hz⟩ := I1.tuple hq
    refine call_enum1 (begins_tuple a its.toArray) p' fun h' he hit hk => wpAny_pyIter_enum he ?_
    have hlt : a < s1.heap.objs.size := by obtain ⟨o, ho, _⟩ := p'; exact Heap.lt_size ho
    exact ⟨s1.heap.objs.size + 1, [s1.heap.objs.size + 1, s1.heap.objs.size], _, _, H1, rfl, I1.kept (t' := s1.toks) hk, turn_enumT a (s1.heap.objs.size + 1) s1.heap.objs.size, ⟨⟨.none, he⟩, ⟨_, hit, rfl, rfl⟩, Nat.succ_ne_self _, Nat.ne_of_lt hlt, Nat.ne_of_lt (Nat.lt_succ_of_lt hlt)⟩, fp2, q⟩
section
variable {X : Cx} {k : Cn} {W : WX} {σ : L2.St} {H : Hp}
theorem pr_L {fl : Nat} {A : Nat → Addr} {C : Store} {a : Addr} {it : ItD} (ok : ItOk k fl (Itl k.K a) it A C H) : ItOk k fl (Ite k.K a) (prI it) A C H := fun A' C' H' p st' => by
  obtain ⟨o1, o2⟩ := ok A' C' H' p st'
  refine ⟨fun j d hj e => ?_, fun hf => o2 hf⟩
  simp only [prI, Option.map_eq_some_iff] at e
  obtain ⟨x, ex, rfl⟩ := e
  obtain ⟨⟨xs, v, hq, hv⟩, h2⟩ := o1 j x hj ex
  refine ⟨⟨xs, v, hq, hv⟩, fun y H'' ⟨T, z, ey, hT, eH, hz⟩ => ?_⟩
  subst ey eH
  have ez : z = v := Option.some.inj ((hz xs hq).symm.trans hv)
  subst ez
  obtain ⟨A3, p3, st3, r3⟩ := h2 z H' ⟨rfl, fun ys hy => hz ys hy⟩
  have q : Kp A3 C' H' A3 C' (upd H' T (.tup [.int (j : Nat), z])) := kp_new hT
  refine ⟨A3, p3.trans q.stp0, st3.new hT, ?_⟩
  have st4 := st3.new (o := .tup [.int (j : Nat), z]) hT
  exact .tup (tup_nl st4 upd_same) upd_same (.cons (.int _) (.cons (r3.kp q) .nil))
theorem pr_T {fl : Nat} {A : Nat → Addr} {C : Store} {a : Addr} {it : ItD} (ok : ItOk k fl (Itt k.K a) it A C H) : ItOk k fl (IteT k.K a) (prI it) A C H := fun A' C' H' p st' => by
  obtain ⟨o1, o2⟩ := ok A' C' H' p st'
  refine ⟨fun j d hj e => ?_, fun hf => o2 hf⟩
  simp only [prI, Option.map_eq_some_iff] at e
  obtain ⟨x, ex, rfl⟩ := e
  obtain ⟨⟨xs, v, hq, hv⟩, h2⟩ := o1 j x hj ex
  refine ⟨⟨xs, v, hq, hv⟩, fun y H'' ⟨T, z, ey, hT, eH, hz⟩ => ?_⟩
  subst ey eH
  have ez : z = v := Option.some.inj ((hz xs hq).symm.trans hv)
  subst ez
  obtain ⟨A3, p3, st3, r3⟩ := h2 z H' ⟨rfl, fun ys hy => hz ys hy⟩
  have q : Kp A3 C' H' A3 C' (upd H' T (.tup [.int (j : Nat), z])) := kp_new hT
  refine ⟨A3, p3.trans q.stp0, st3.new hT, ?_⟩
  have st4 := st3.new (o := .tup [.int (j : Nat), z]) hT
  exact .tup (tup_nl st4 upd_same) upd_same (.cons (.int _) (.cons (r3.kp q) .nil))
theorem li_enum {m : ME} {R : It → Hp → Prop} (h : LI k W (mEnum m) σ H R) : iEnumA k.K (tCons (LE k W m) tNil) σ H R := by
  obtain ⟨A, F, C, s, h⟩ := h
  refine ⟨A, F, C, s, (Aft.bnd (rel := RepD k) h).mono fun d C1 A1 H1 v p st r h1 => ?_⟩
  have tup : ∀ xs, vT d = some xs → itS d C1 = some (itC xs) → ∃ a, [v] = [.ref a] ∧ (((∃ xs, SqL k.K H1 a xs) ∧ R (Ite k.K a) H1) ∨ ((∃ xs, SqT k.K H1 a xs) ∧ R (IteT k.K a) H1)) := fun xs e ei => by
    rw [ei] at h1
    obtain ⟨a, rfl, hs, ok⟩ := itC_T (fl := F.fl) r e
    exact ⟨a, rfl, .inr ⟨hs, h1 A1 H1 _ Stp.refl st (pr_T ok)⟩⟩
  show ∃ a, [v] = [.ref a] ∧ _
  cases d with
  | tup xs => exact tup xs rfl rfl
  | kt xs => exact tup xs rfl rfl
  | lst xs =>
    cases r with
    | lst l hh rv => exact ⟨_, rfl, .inl ⟨⟨_, .inl (.inl hh)⟩, h1 A1 H1 _ Stp.refl st (pr_L (itC_L (.lst l hh rv)))⟩⟩
  | cell i =>
    cases r with
    | cell hi =>
      simp only [itS] at h1
      split at h1
      · rename_i it e
        split at e
        · rename_i ys ec
          cases e
          obtain ⟨vs, hv, rv⟩ := st.at_ i _ ec
          exact ⟨_, rfl, .inl ⟨⟨vs, .inl (.inl hv)⟩, h1 A1 H1 _ Stp.refl st (pr_L (itV_L (.cell hi)))⟩⟩
        · cases e
      · exact h1.elim
  | _ => exact h1.elim
theorem di_enum {e : Expr} {p pos tpos : Pos} {elts : List Expr} {kk : Nat} {m : ME} (hg : Gl X "enumerate") (hm : X.mg "enumerate" = none) (hK : X.K = k.K) (he : PE X e (LE k W m)) (hs : starEach [e] X.env = [(false, eval e X.env)] := by rfl) :
    PI X (.Tuple elts kk tpos) (.Call (.Name "enumerate" p) [e] [] pos) (LI k W (mEnum m)) := (pi_enumA hg hm (pa_cons he pa_nil (by rw [hs]; rfl)) hs).cq fun _ _ _ h => by
  rw [hK]
  exact li_enum h
end
end CT
set_option maxHeartbeats 4000000
/-! DLG: what the head tells (defs by addresses, checks), the law's end for data. -/
namespace CT
open PySem L2 PySem.Spec PyProof.Rows
/-! ### defs, by where they stand -/
theorem DefX.funD {K : PySem.W.Frag} {d : DefX} (e : fnX K (d.adr K) = d.val) (c : d.ok K = true) : ∃ fd, FunD K d.name d.qual d.params d.body d.scope (d.dfl K) [] (d.adr K) fd := by
  obtain ⟨kp, c2⟩ := He.ba c
  unfold fnX at e
  split at c2
  · rename_i oc od fd osl q
    rw [q] at e
    obtain ⟨k1, k2⟩ := He.ba c2
    cases fd
    simp only [DefX.val, Option.some.injEq, Prod.mk.injEq] at e
    obtain ⟨h1, h2, h3, h4, h5, h6, h7, h8⟩ := e
    subst h1 h2 h3 h4 h5 h6 h7 h8
    exact ⟨_, ⟨_, _, _, _, _, _, _, _, _, _, rfl, q, k1, He.dflB_ok k2, .inl rfl⟩, kp⟩
  · cases c2
/-! ### the head's look -/
theorem obG_eq {n : Nat} {fs : List (PySem.W.Frag → Bool)} {fn : List DefX} (s : PySem.W.SharedT) : obG n fs fn (HandSHeadRun.getT s) = (hookX n fs fn).obs s.abs := by
  have e : HandSHeadRun.getT s = s.abs.heap.get? := funext (HandSHeadRun.getT_eq s)
  rw [e]
  rfl
section
variable {fs : List (PySem.W.Frag → Bool)} {fn : List DefX} {K : PySem.W.Frag}
theorem SaysX.fact (c : SaysX fs fn K) (i : Nat) {f : PySem.W.Frag → Bool} (h : fs[i]? = some f := by rfl) : f K = true :=
  List.all_eq_true.mp (He.ba (show ((fs.all fun f => f K) && fn.all fun d => d.ok K) = true from congrArg (fun z : AlX => z.1) c)).1 f (List.mem_of_getElem? h)
theorem SaysX.def_ (c : SaysX fs fn K) (i : Nat) {d : DefX} (h : fn[i]? = some d := by rfl) : ∃ fd, FunD K d.name d.qual d.params d.body d.scope (d.dfl K) [] (d.adr K) fd := by
  have c2 := (He.ba (show ((fs.all fun f => f K) && fn.all fun d => d.ok K) = true from congrArg (fun z : AlX => z.1) c)).2
  have e2 : (fn.map fun d => fnX K (d.adr K))[i]? = (fn.map DefX.val)[i]? := congrArg (fun z : AlX => z.2[i]?) c
  rw [List.getElem?_map, List.getElem?_map, h] at e2
  exact DefX.funD (Option.some.inj e2) (List.all_eq_true.mp c2 d (List.mem_of_getElem? h))
end
/-! ### checks -/
section
variable {K : PySem.W.Frag}
theorem prB_ok {x f : Str} (h : prB x f K = true) : PropOf K (He.ga K x) f (prA K (He.ga K x) f) (prG K (He.ga K x) f) := by
  obtain ⟨h1, h⟩ := He.ba h
  obtain ⟨h2, h⟩ := He.ba h
  obtain ⟨h3, h4⟩ := He.ba h
  refine ⟨He.eqO_ok h1, He.eqO_ok h2, of_decide_eq_true h3, ?_⟩
  split at h4
  · rename_i g rest e
    refine ⟨rest, ?_⟩
    unfold prG
    rw [e]
  · cases h4
theorem mem_allBt (b : Bt) : b ∈ allBt := by cases b <;> simp [allBt]
theorem insB_ok {C : Addr} (h : insB C K = true) : C8.InsC K C := by
  obtain ⟨h1, h⟩ := He.ba h
  obtain ⟨h2, h⟩ := He.ba h
  obtain ⟨h3, h⟩ := He.ba h
  obtain ⟨h4, h⟩ := He.ba h
  obtain ⟨h5, h⟩ := He.ba h
  obtain ⟨h6, h⟩ := He.ba h
  obtain ⟨h7, h⟩ := He.ba h
  obtain ⟨h8, h9⟩ := He.ba h
  exact ⟨⟨h1, h2, h3, He.eqO_ok h4⟩, He.eqO_ok h5, He.eqO_ok h6, of_decide_eq_true h7, of_decide_eq_true h8, of_decide_eq_true h9⟩
theorem isaB_ok {cl : PySem.W.Frag → Nat → Addr} {kn : List Nat} {k : Cn} (hK : k.K = K) (hc : k.cl = cl K) (h : isaB cl kn K = true) : IsaOk k kn := by
  obtain ⟨h1, h⟩ := He.ba h
  obtain ⟨h2, h3⟩ := He.ba h
  rw [List.all_eq_true] at h1 h2 h3
  refine ⟨fun c hm => ?_, fun c hm c' hm' => ?_, fun c hm b => ?_, fun c hm b => ?_⟩
  · rw [hK, hc]
    exact insB_ok (h1 c hm)
  · rw [hK, hc]
    exact of_decide_eq_true (List.all_eq_true.mp (h2 c hm) c' hm')
  · rw [hK, hc]
    exact of_decide_eq_true (He.ba (List.all_eq_true.mp (h3 c hm) b (mem_allBt b))).1
  · rw [hK, hc]
    exact of_decide_eq_true (He.ba (List.all_eq_true.mp (h3 c hm) b (mem_allBt b))).2
theorem ktB_ok {a : PySem.W.Frag → Addr} (h : ktB a K = true) : KT K (a K) [] := by
  unfold ktB at h
  split at h
  · rename_i c od its n osl q
    obtain ⟨h1, h2⟩ := He.ba h
    have e : its.toList = [] := List.length_eq_zero_iff.mp (by rw [Array.length_toList]; exact of_decide_eq_true h2)
    refine ⟨_, its, n, q, congrArg Value.type (of_decide_eq_true h1), rfl, by rw [of_decide_eq_true h2]; exact Nat.zero_le _, ?_⟩
    rw [e]
    exact .nil
  · cases h
end
/-! ### the end -/
def scrD (ns : List Int) : D := .scr (ns.map D.int)
theorem rep_scr {k : Cn} {H : Hp} {a : Addr} {ns : List Int} (hO : Only H) (h : SqL k.K H a (ns.map V.int)) : Rep k (fun _ => 0) [] H (.ref a) (scrD ns) := by
  have nl : ¬ Live (fun _ => 0) [] a := by
    rintro ⟨i, c, e, _⟩
    simp at e
  rcases h with h | ⟨o, its, n, h1, h2, h3, h4, h5, h6⟩
  · rcases h with h | ⟨o, h⟩
    · rcases hO a with z | ⟨o, xs, z⟩
      · rw [h] at z; cases z
      · rw [h] at z; cases z
    · exact .scr nl h RepL.ints
  · exact .kscr ⟨o, its, n, h1, h2, h3, h4, h5, h6⟩ RepL.ints
theorem law_core {P : Program} {w : World} {K : PySem.W.Frag} {mg mb : Str → Option Value} {fa a : Addr} {sp : Sp} {s₁ : Shared} {vs : List Value} {ns : List Int}
    (KX : K.In s₁.heap) (hns : s₁.heap.Ns mainGlobals mg) (hb : s₁.heap.Ns builtinsNs mb) (hbb : ∀ x : Str, x ≠ "__name__" → mb x = bootBuiltins x) (hlim : s₁.heap.NoLimit) (hg : s₁.gens = #[])
    (ha : s₁.heap.get? a = some { cls := .type "list", data := .seq vs.toArray }) (hi : IntsAre vs ns) (hl : ns.length ≤ sizeLine)
    (key : ∀ base : Heap, K.In base → base.Ns mainGlobals mg → ∀ (s : Shared) (H : Hp), Env0 P w K mg base callerA [] s H → sp [.ref a] H (fun v _ => v = .bl true) (fun _ _ _ => False) →
      codeAny (model P w) callerA (.call (.ref fa) ⟨[.ref a], []⟩) (CR (L2.CX P w) [] P w H s (fun v _ => v = .bl true) fun _ _ _ => False) s)
    (hsp : ∀ H : Hp, Only H → SqL K H a (ns.map V.int) → sp [.ref a] H (fun v _ => v = .bl true) fun _ _ _ => False) :
    codeAny (model P w) callerA (.call (.ref fa) ⟨[.ref a], []⟩) (fun r s' => r = .ok (.ret (.bool true)) ∧ OldK s₁.heap s'.heap ∧ s'.os = s₁.os ∧ AllBare s'.gens) s₁ := by
  have rv := vals_ints hi
  have lenV := hi.length
  -- from an abstract heap in which nothing but the script may be tracked
  have core : ∀ H : Hp, Only H → SqL K H a (ns.map V.int) → HOk P w H s₁.heap → (∀ b, H b ≠ none → b = a) → (H a ≠ none → K.lookup a = none) →
      codeAny (model P w) callerA (.call (.ref fa) ⟨[.ref a], []⟩) (fun r s' => r = .ok (.ret (.bool true)) ∧ OldK s₁.heap s'.heap ∧ s'.os = s₁.os ∧ AllBare s'.gens) s₁ := by
    intro H hO hS hok hA hK
    have base_of : ∀ {b : Addr} {o : Obj}, s₁.heap.get? b = some o → H b = none → (hidT s₁.heap H).get? b = some o := fun e n => hidT_get e n
    have noA : ∀ {b : Addr} {o : Obj} {es : Array DictEntry} {ep : Nat}, s₁.heap.get? b = some o → o.data = .dict es ep → H b = none := fun {b o es ep} e d => by
      cases q : H b with
      | none => rfl
      | some u =>
        have e' : b = a := hA b (by rw [q]; simp)
        subst e'
        rw [ha] at e; cases e
        have d' : Data.seq vs.toArray _ = Data.dict es ep := d
        cases d'
    have nsK : ∀ {b : Addr} {m : Str → Option Value}, s₁.heap.Ns b m → (hidT s₁.heap H).Ns b m := fun {b m} ⟨o, es, ep, e, d, r⟩ => ⟨o, es, ep, base_of e (noA e d), d, r⟩
    have hKb : K.In (hidT s₁.heap H) := fun b o e => base_of (KX b o e) (by
      cases q : H b with
      | none => rfl
      | some u =>
        have e' : b = a := hA b (by rw [q]; simp)
        subst e'
        rw [hK (by rw [q]; simp)] at e; cases e)
    have hM : Mod K mg (hidT s₁.heap H) := ⟨hKb, nsK hns, ⟨mb, nsK hb, hbb⟩, let ⟨mc, h1, h2⟩ := hlim; ⟨mc, nsK h1, h2⟩⟩
    have e0 : Env0 P w K mg (hidT s₁.heap H) callerA [] s₁ H := ⟨rfl, hM, fun b o e => of_hidT e, Nat.le_of_eq (hidT_size _ _), trivial, fun b hb => absurd (show b ∈ ([] : List Addr) from hb) (by simp), hok, .of_eq hg⟩
    refine codeAny_mono (key _ hKb (nsK hns) s₁ H e0 (hsp H hO hS)) fun r s' h => ?_
    cases r with
    | error e =>
      obtain ⟨_, _, _, _, _, _, _, _, _, _, _, _, z⟩ := h
      exact z.elim
    | ok fl =>
      cases fl with
      | next => exact False.elim h
      | brk => exact False.elim h
      | cont => exact False.elim h
      | ret u =>
        obtain ⟨v, H', os, bare, un, hok', r', q⟩ := h
        have q' : v = .bl true := q
        subst q'
        obtain rfl : u = Value.bool true := r'
        refine ⟨rfl, OldK.of_keep fun b o e => ?_, os, bare⟩
        cases q : H b with
        | none => exact un.keep b o e q (by intro z; exact absurd (show b ∈ ([] : List Addr) from z) (by simp)) (by simp)
        | some u =>
          rcases hO b with z | ⟨ob, xs, z⟩
          · rw [q] at z; cases z
          · have z2 := un.frzs b ob _ z
            obtain ⟨e1, _⟩ := hok b _ z
            obtain ⟨e2, _⟩ := hok' b _ z2
            rw [e] at e1; cases e1
            exact e2
  cases hk : K.lookup a with
  | some o =>
    -- the script is one of the module's own objects
    have e := KX a o hk
    rw [ha] at e
    cases e
    refine core (fun _ => none) (fun _ => .inl rfl) (.inr ⟨_, vs.toArray, _, hk, rfl, rfl, rfl, by rw [List.size_toArray, lenV]; exact hl, by simpa using rv⟩) (fun b u z => by have z' : (none : Option HO) = some u := z; cases z') (fun b z => absurd rfl z) fun z => absurd rfl z
  | none =>
    refine core (fun b => if b = a then some (.frz { cls := .type "list", data := .seq vs.toArray } (.lst (ns.map V.int))) else none) (fun b => ?_) (.inl (.inr ⟨{ cls := .type "list", data := .seq vs.toArray }, if_pos rfl⟩)) (fun b u z => ?_) (fun b z => ?_) fun _ => hk
    · by_cases hb : b = a
      · exact .inr ⟨_, _, if_pos hb⟩
      · exact .inl (if_neg hb)
    · by_cases hb : b = a
      · have z' := (if_pos hb).symm.trans z
        cases z'
        subst hb
        exact ⟨ha, by rw [List.length_map]; exact hl, vs, _, rv, ha⟩
      · have z' := (if_neg hb).symm.trans z
        cases z'
    · by_cases hb : b = a
      · exact hb
      · exact absurd (if_neg hb) z
end CT
set_option maxHeartbeats 4000000
/-! DLH: a def that hands back a list of its own, to be changed by its caller. -/
namespace CT
open PySem L2 PySem.Spec PyProof.Rows
section
variable {k : Cn} {A A2 : Nat → Addr} {C C2 : Store} {H : Hp} {n : Nat}
structure Fw2 (n : Nat) (A : Nat → Addr) (C : Store) (A2 : Nat → Addr) (C2 : Store) : Prop where
  lv : ∀ a, Live A2 C2 a → Live A C a
  ix : ∀ j, j < n → A2 j = A j
  len : n ≤ C2.length
mutual
theorem Rep.fw2 (q : Fw2 n A C A2 C2) : ∀ {v : V} {d : D}, Rep k A C H v d → CT.cb n d = true → Rep k A2 C2 H v d
  | _, _, .non, _ => .non
  | _, _, .bl b, _ => .bl b
  | _, _, .int i, _ => .int i
  | _, _, .str s, _ => .str s
  | _, _, .lst l h r, z => .lst (fun y => l (q.lv _ y)) h (r.fw2 q (by simpa [CT.cb] using z))
  | _, _, .tup l h r, z => .tup (fun y => l (q.lv _ y)) h (r.fw2 q (by simpa [CT.cb] using z))
  | _, _, .ktup h r, z => .ktup h (r.fw2 q (by simpa [CT.cb] using z))
  | _, _, .scr l h r, z => .scr (fun y => l (q.lv _ y)) h (r.fw2 q (by simpa [CT.cb] using z))
  | _, _, .kscr h r, z => .kscr h (r.fw2 q (by simpa [CT.cb] using z))
  | _, _, .obj l h e r, z => .obj (fun y => l (q.lv _ y)) h e (r.fw2 q (by simpa [CT.cb] using z))
  | _, _, .exn x l h e r, z => .exn x (fun y => l (q.lv _ y)) h e (r.fw2 q (by simpa [CT.cb] using z))
  | _, _, .cls c, _ => .cls c
  | _, _, .dT l h r, z => .dT (fun y => l (q.lv _ y)) h (r.fw2 q (by simpa [CT.cb] using z))
  | _, _, .cell (i := i) hi, z => by
    have hi : i < n := by simpa [CT.cb] using z
    rw [← q.ix i hi]
    exact .cell (Nat.lt_of_lt_of_le hi q.len)
theorem RepL.fw2 (q : Fw2 n A C A2 C2) : ∀ {vs : List V} {ds : List D}, RepL k A C H vs ds → CT.cbL n ds = true → RepL k A2 C2 H vs ds
  | _, _, .nil, _ => .nil
  | _, _, .cons r t, z => by
    simp [CT.cbL] at z
    exact .cons (r.fw2 q z.1) (t.fw2 q z.2)
end
end
def finO (n : Nat) (d : D) (C : Store) : R D := match d with
  | .cell i => if n ≤ i then (match C[i]? with
    | some (some (.lst xs)) => if cbL n xs = true then .ok (.cell n) (C.take n ++ [some (.lst xs)]) else .stuck
    | _ => .stuck) else .stuck
  | _ => .stuck
def mDefO (np ns : Nat) (body : MS) : MF := fun ds C => if ds.length = np then (match body ⟨C.length, ds.map some ++ List.replicate (ns - np) none⟩ C with
    | .rt d C' => finO C.length d C'
    | .xc e _ C' => if cbL C.length e.fs = true then .exc e (C'.take C.length) else .stuck
    | _ => .stuck) else .stuck
theorem mDefO_ar {np ns : Nat} {body : MS} : Ar np (mDefO np ns body) := fun ds C h => by
  unfold mDefO
  rw [if_neg h]
section
variable {k : Cn}
theorem start_sr {np ns : Nat} {N : List Str} {vs : List V} {ds : List D} {H : Hp} {A : Nat → Addr} {C : Store} (hN : N.length = ns) (hv : vs.length = np) (hd : ds.length = np) (hp : np ≤ ns) (st : StOk k A C H) (rl : RepL k A C H vs ds) :
    SR k A ⟨C.length, ds.map some ++ List.replicate (ns - np) none⟩ C (L2.start N vs) H := by
  have sl : (L2.start N vs) = vs.map some ++ List.replicate (ns - np) none := by unfold L2.start; rw [hN, hv]
  refine ⟨st, st.low, Nat.le_refl _, ?_, fun i d e => ?_⟩
  · rw [sl]
    simp [rl.length]
  · rw [sl]
    have e' : (ds.map some ++ List.replicate (ns - np) none)[i]? = some (some d) := e
    by_cases hi : i < ds.length
    · rw [List.getElem?_append_left (by simpa using hi), List.getElem?_map] at e'
      cases ed : ds[i]? with
      | none => rw [ed] at e'; cases e'
      | some d' =>
        rw [ed] at e'
        cases e'
        obtain ⟨v, h1, h2⟩ := rl.get ed
        refine ⟨v, ?_, h2⟩
        rw [List.getElem?_append_left (by rw [List.length_map, rl.length]; exact hi), List.getElem?_map, h1]
        rfl
    · rw [List.getElem?_append_right (by simpa using hi)] at e'
      have := List.getElem?_eq_some_iff.mp e'
      obtain ⟨h1, h2⟩ := this
      rw [List.getElem_replicate] at h2
      cases h2
theorem spDO_body {np ns : Nat} {body : MS} {N : List Str} {vs : List V} {H : Hp} {Q : VK} {E : XK} (hN : N.length = ns) (hp : np ≤ ns) (h : SpD k np (mDefO np ns body) vs H Q E) :
    LS k (fun c d _ H' => E c d H') body { nx := fun _ H' => Q .non H', rt := Q } (L2.start N vs) H := by
  obtain ⟨hv, A, C, ds, st, rl, h⟩ := h
  have hd : ds.length = np := by rw [← rl.length]; exact hv
  unfold mDefO at h
  rw [if_pos hd] at h
  refine ⟨A, _, C, start_sr hN hv hd hp st rl, ?_⟩
  show AftS k _ C.length A C H (body ⟨C.length, ds.map some ++ List.replicate (ns - np) none⟩ C) _
  cases eb : body ⟨C.length, ds.map some ++ List.replicate (ns - np) none⟩ C with
  | nx sl' C' => rw [eb] at h; exact h.elim
  | bk sl' C' => rw [eb] at h; exact h.elim
  | ct sl' C' => rw [eb] at h; exact h.elim
  | stuck => rw [eb] at h; exact h.elim
  | rt d C' =>
    rw [eb] at h
    intro A' H' v p st' r
    simp only at h
    unfold finO at h
    split at h
    · rename_i i
      split at h
      · rename_i hi
        split at h
        · rename_i xs ec
          split at h
          · rename_i hc
            obtain ⟨q1, q2, q3, q4⟩ := cut_stp rfl st st' p
            cases r with
            | cell hi' =>
              obtain ⟨ws, hw, rw'⟩ := st'.at_ i _ ec
              have tl : (C'.take C.length ++ [some (Cell.lst xs)]).length = C.length + 1 := by simp [List.length_take]; omega
              have at_lt : ∀ j, j < C.length → (C'.take C.length ++ [some (Cell.lst xs)])[j]? = C'[j]? := fun j hj => by
                rw [List.getElem?_append_left (by rw [q4]; exact hj), List.getElem?_take_of_lt hj]
              have at_n : (C'.take C.length ++ [some (Cell.lst xs)])[C.length]? = some (some (.lst xs)) := by
                rw [List.getElem?_append_right (by rw [q4]; exact Nat.le_refl _), q4]
                simp
              have ex_lt : ∀ j, j < C.length → ext A' C.length (A' i) j = A' j := fun j hj => if_neg (Nat.ne_of_lt hj)
              have fw : Fw2 C.length A' C' (ext A' C.length (A' i)) (C'.take C.length ++ [some (.lst xs)]) := by
                refine ⟨fun a l => ?_, ex_lt, by rw [tl]; exact Nat.le_succ _⟩
                obtain ⟨j, c, e, z⟩ := l
                have hj : j < C.length + 1 := by rw [← tl]; exact (List.getElem?_eq_some_iff.mp e).1
                by_cases hj' : j < C.length
                · rw [at_lt j hj'] at e
                  rw [ex_lt j hj'] at z
                  exact ⟨j, c, e, z⟩
                · have ej : j = C.length := by omega
                  subst ej
                  rw [ext_at] at z
                  exact ⟨i, _, ec, z⟩
              have low : LowC C.length C' := p.low _ (Nat.le_refl _) (Nat.le_refl _) st.low
              have cellOk : ∀ c a, cbC C.length c = true → CellAt k A' C' H' a c → CellAt k (ext A' C.length (A' i)) (C'.take C.length ++ [some (.lst xs)]) H' a c := fun c a hb hx => by
                cases c with
                | lst ds => obtain ⟨ws, e, r⟩ := hx; exact ⟨ws, e, r.fw2 fw hb⟩
                | dT ks ds => obtain ⟨ws, e, z, r⟩ := hx; exact ⟨ws, e, z, r.fw2 fw hb⟩
                | ins c ds => obtain ⟨dx, ws, e, z, r⟩ := hx; exact ⟨dx, ws, e, z, r.fw2 fw hb⟩
              have st2 : StOk k (ext A' C.length (A' i)) (C'.take C.length ++ [some (.lst xs)]) H' := by
                refine ⟨fun j c e => ?_, fun j j' c c' e e' z => ?_⟩
                · have hj : j < C.length + 1 := by rw [← tl]; exact (List.getElem?_eq_some_iff.mp e).1
                  by_cases hj' : j < C.length
                  · rw [at_lt j hj'] at e
                    rw [ex_lt j hj']
                    exact cellOk c _ (low j c hj' e) (st'.at_ j c e)
                  · have ej : j = C.length := by omega
                    subst ej
                    rw [at_n] at e
                    cases e
                    rw [ext_at]
                    exact cellOk _ _ hc (st'.at_ i _ ec)
                · have hj : j < C.length + 1 := by rw [← tl]; exact (List.getElem?_eq_some_iff.mp e).1
                  have hk : j' < C.length + 1 := by rw [← tl]; exact (List.getElem?_eq_some_iff.mp e').1
                  by_cases hj' : j < C.length
                  · by_cases hk' : j' < C.length
                    · rw [at_lt j hj'] at e
                      rw [at_lt j' hk'] at e'
                      rw [ex_lt j hj', ex_lt j' hk'] at z
                      exact st'.inj j j' c c' e e' z
                    · have ek : j' = C.length := by omega
                      subst ek
                      rw [at_lt j hj'] at e
                      rw [ex_lt j hj', ext_at] at z
                      have := st'.inj j i c _ e ec z
                      omega
                  · have ej : j = C.length := by omega
                    subst ej
                    by_cases hk' : j' < C.length
                    · rw [at_lt j' hk'] at e'
                      rw [ex_lt j' hk', ext_at] at z
                      have := st'.inj j' i c' _ e' ec z.symm
                      omega
                    · omega
              refine h (ext A' C.length (A' i)) H' (.ref (A' i)) ⟨fun v d r => (p.rep v d r).fw2 fw r.cb, by rw [tl]; exact Nat.le_succ _, fun f h1 h2 l => low_app (by rw [q4]; exact h1) (low_take (p.low f h1 h2 l))⟩ st2 ?_
              have r9 : Rep k (ext A' C.length (A' i)) (C'.take C.length ++ [some (.lst xs)]) H' (.ref (ext A' C.length (A' i) C.length)) (.cell C.length) := .cell (by rw [tl]; exact Nat.lt_succ_self _)
              rw [ext_at] at r9
              exact r9
          · exact h.elim
        · exact h.elim
      · exact h.elim
    · exact h.elim
  | xc e sl' C' =>
    rw [eb] at h
    intro A' σ' H' dd ws p s' x l r
    simp only at h
    split at h
    · rename_i hc
      obtain ⟨q1, q2, q3, q4⟩ := cut_stp rfl st s'.st p
      exact h A' H' dd ws q1 q2 x l (r.cut q3 hc)
    · exact h.elim
variable {P : Program} {w : World} {mg : Str → Option Value} {base : Heap} {x qual : Str} {params : Arguments} {body : List Stmt} {scope : Scope} {dvs : List V} {kws : List (Str × V)} {f : Addr} {fd : FuncData}
theorem fn_okO {N ps : List Str} {lev : Nat} {m : MS} (F : FunD k.K x qual params body scope dvs kws f fd) (S : FnScope N ps scope) (hp : ps.length ≤ N.length)
    (hb : ∀ (cdv : Value) (A : Around) (outer : List Env) (s : Shared) (H : Hp) (E : XK), RoomG lev (A.deeper (envOfC qual scope s.heap.objs.size f cdv)) → PSs (cxOf (L2.CX P w) P w k.K mg base N qual scope f cdv A outer s H E) body (LS k (fun c d _ H' => E c d H') m)) :
    FnG P w k.K mg base (lev + 1) f fd ps (SpD k ps.length (mDefO ps.length N.length m)) := by
  obtain ⟨oc, od, dV, kV, doc, pm, an, cdv, ct, osl, rfl, lk, hcd, _, _⟩ := F.ex
  exact fn_ofG lk hcd S (fun vs H Q E h => h.1) fun A outer s H vs Q E hr h => ⟨_, hb cdv A outer s H E hr, spDO_body rfl hp h⟩
end
end CT
set_option maxHeartbeats 4000000
/-! DLI: comparisons as tests. -/
namespace CT
open PySem L2 PySem.Spec PyProof.Rows
theorem RoomG.u65 {n : Nat} {A : Around} (hr : RoomG n A) : A.units + 65 < cLine := by have := hr.room.un; omega
theorem RoomG.u200 {n : Nat} {A : Around} (hr : RoomG n A) : A.units + 200 < cLine := by have := hr.room.un; omega
section
variable {X : Cx} {k : Cn} {W : WX} {a b c : Expr} {pos : Pos} {op op' : CmpOp} {r r' : R2} {o o' : O2} {ma mb mc : ME}
theorem dt_cmp (hR : OpR X (compareOp op) r) (hD : OpD k r o) (ha : PE X a (LE k W ma)) (hb : PE X b (LE k W mb)) (hm : behindInMarks op b = false) : PT X (.Compare a [op] [b] pos) (LT k W (mTst (mOp o ma mb))) :=
  (pt_cmpR hR ha hb hm).cq fun _ _ _ h => le_op hD (lt_val h)
end
/-! ### == and !=, scalars or data -/
theorem d_eqA {k : Cn} : OpD k (fun x y H Q => rEq x y H Q ∨ rEqD k.K x y H Q) (oEqA false) := by
  intro fl A C H x y dx dy d C' Q hf hl st rx ry e q
  unfold oEqA at e
  split at e
  · cases rx; cases ry; cases e
    refine .inl ⟨rfl, ?_⟩
    have := q A H _ Stp.refl st (.bl _)
    simpa using this
  · cases rx; cases ry; cases e
    refine .inl ⟨rfl, ?_⟩
    have := q A H _ Stp.refl st (.bl _)
    simpa using this
  · exact .inr (d_eqD fl A C H x y _ _ d C' Q hf hl st rx ry e q)
theorem d_neA {k : Cn} : OpD k (fun x y H Q => rNe x y H Q ∨ rNeD k.K x y H Q) (oEqA true) := by
  intro fl A C H x y dx dy d C' Q hf hl st rx ry e q
  unfold oEqA at e
  split at e
  · cases rx; cases ry; cases e
    refine .inl ⟨rfl, ?_⟩
    have := q A H _ Stp.refl st (.bl _)
    simpa using this
  · cases rx; cases ry; cases e
    refine .inl ⟨rfl, ?_⟩
    have := q A H _ Stp.refl st (.bl _)
    simpa using this
  · exact .inr (d_neD fl A C H x y _ _ d C' Q hf hl st rx ry e q)
end CT
set_option maxHeartbeats 4000000
/-! DLJ: operators that a class defines: ==, !=, +, in, []. -/
namespace CT
open PySem L2 PySem.Spec PyProof.Rows
/-- an operation that may call a def of the program's own -/
def OpX (X : Cx) (f : Value → Value → Sem Value) (r : L2.St → R2) : Prop :=
  ∀ (pins : List (Addr × Obj)) (s : Shared) (σ : L2.St) (H : Hp) (x y : V) (v u : Value) (Q : VK), Inv X pins σ H s → RelV x v → RelV y u → r σ x y H Q → wpAny (model X.prog X.w) X.A (f v u) (EP X pins σ Q) X.xe s
def tOpX (r : L2.St → R2) (ta tb : TE) : TE := fun σ H Q => ta σ H fun x H1 => tb σ H1 fun y H2 => r σ x y H2 Q
section
variable {X : Cx} {k : Cn} {W : WX} {σ : L2.St} {H : Hp} {Q : VK} {lev : Nat} {C g a dx : Addr} {fs : List (Str × V)} {f : Str} {fd : FuncData} {ps : List Str} {np : Nat} {m : MF} {e o b : Expr} {pos : Pos} {ta tb : TE} {mo me : ME} {E : L2.St → XK} {sp : Sp} {r : L2.St → R2}
theorem pe_opX {op : Operator} (ho : OpX X (binaryOp op) r) (ha : PE X e ta) (hb : PE X b tb) : PE X (.BinOp e op b pos) (tOpX r ta tb) :=
  ⟨fun pins s σ H Q I h => wpAny_BinOp (binT ha hb I h fun v u s2 x y H2 I2 rx ry q => ho pins s2 σ H2 x y v u Q I2 rx ry q)⟩
theorem op_addO {op : Operator} (hc : PySem.W.selfFirst X.K C = true) (hs : PySem.W.findIn X.K (.ref C) (PySem.dunder op.info.2) = some (some (.ref g))) (hf : PySem.W.isFn X.K (.ref g) = true) (F : FnG X.prog X.w X.K X.mg X.base lev g fd ps sp) (hr : RoomG lev X.A) (hb : Binds X.K fd ps []) (hx : ∀ σ, PassesAt (L2.CX X.prog X.w) X σ (E σ)) :
    OpX X (binaryOp op) fun σ x y H Q => ∃ a dx fs b dy gs, x = .ref a ∧ y = .ref b ∧ H a = some (.ins C dx fs) ∧ H b = some (.ins C dy gs) ∧ sp [x, y] H Q (E σ) := by
  intro pins s σ H x y v u Q I rx ry h
  obtain ⟨a, dx, fs, b, dy, gs, rfl, rfl, ha, hb', q⟩ := h
  cases (show v = Value.ref a from rx)
  cases (show u = Value.ref b from ry)
  obtain ⟨mA, O, _, _, _, _⟩ := ins_get I.hok ha
  obtain ⟨od, J, _⟩ := O.look
  obtain ⟨mA', O', _, _, _, _⟩ := ins_get I.hok hb'
  obtain ⟨od', J', _⟩ := O'.look
  obtain ⟨mm, hF⟩ := I.fr
  refine PySem.W.binop_K hF I.ok.mod.kin J J'.type hc hs hf ?_
  refine wpAny_mono (run_fnG (us := [.ref a, .ref b]) (vs := [.ref a, .ref b]) (dvs := []) (ds := []) F hr hb .nil (hx σ) I (.cons rfl (.cons rfl .nil)) q) (fun z' s' hz => ?_) fun _ _ z => z
  obtain ⟨z, H', I', rz, qz⟩ := hz
  exact SlX.cmpback rz ⟨z, H', I', rz, qz⟩
end
end CT
set_option maxHeartbeats 4000000
/-! DLK: != by an own __eq__; x[i] by an own __getitem__. -/
namespace CT
open PySem L2 PySem.Spec PyProof.Rows
end CT
set_option maxHeartbeats 4000000
/-! DLL: own operators over data. -/
namespace CT
open PySem L2 PySem.Spec PyProof.Rows
/-! ### the terms -/
def isC (c : Nat) (x : D) (C : Store) : Bool := match vO x C with
  | some (c', _) => decide (c' = c)
  | none => false
/-- x + y, both of the class -/
def mBinO (c : Nat) (m : MF) (mo me : ME) : ME := fun F C => bnd (mo F C) fun x C1 => bnd (me F C1) fun y C2 => if (isC c x C2 && isC c y C2) = true then m [x, y] C2 else .stuck
/-! ### readings -/
section
variable {X : Cx} {k : Cn} {W : WX} {σ : L2.St} {H : Hp} {Q : VK} {lev : Nat} {C g a dx : Addr} {fs : List (Str × V)} {f : Str} {fd : FuncData} {ps : List Str} {np : Nat} {m : MF} {e o b : Expr} {pos : Pos} {ta tb : TE} {mo me : ME} {E : L2.St → XK} {sp : Sp} {r : L2.St → R2}
theorem isC_at {c : Nat} {A : Nat → Addr} {S : Store} {x : D} {v : V} (st : StOk k A S H) (r : Rep k A S H v x) (h : isC c x S = true) : ∃ a dx gs, v = .ref a ∧ H a = some (.ins (k.cl c) dx gs) := by
  unfold isC at h
  split at h
  · rename_i c' fs' ev
    obtain rfl := of_decide_eq_true h
    obtain ⟨a, dx', vs, rfl, ha, _, _⟩ := vO_at st r ev
    exact ⟨a, dx', _, rfl, ha⟩
  · cases h
theorem le_binO {c : Nat} (ar : Ar np m) (h : LE k W (mBinO c m mo me) σ H Q) : tOpX (fun σ x y H Q => ∃ a dx fs b dy gs, x = .ref a ∧ y = .ref b ∧ H a = some (.ins (k.cl c) dx fs) ∧ H b = some (.ins (k.cl c) dy gs) ∧ SpD k np m [x, y] H Q (WE W σ)) (LE k W mo) (LE k W me) σ H Q := by
  obtain ⟨A, F, C, s, h⟩ := h
  refine ⟨A, F, C, s, (Aft.bnd (rel := RepD k) h).mono fun dx C1 A1 H1 v p1 st1 r1 h1 => ?_⟩
  have s1 := s.step p1 st1
  refine ⟨A1, F, C1, s1, (Aft.bnd (rel := RepD k) h1).mono fun dy C2 A2 H2 u p2 st2 r2 h2 => ?_⟩
  have s2 := s1.step p2 st2
  split at h2
  · rename_i hc
    obtain ⟨hc1, hc2⟩ := Bool.and_eq_true_iff.mp hc
    obtain ⟨a, dx', gs, rfl, ha⟩ := isC_at st2 (p2.rep _ _ r1) hc1
    obtain ⟨b, dy', gs', rfl, hb⟩ := isC_at st2 r2 hc2
    exact ⟨a, dx', gs, b, dy', gs', rfl, rfl, ha, hb, sp_of s2.fl ar st2 (.cons (p2.rep _ _ r1) (.cons r2 .nil)) h2⟩
  · exact h2.elim
/-! ### the rules -/
theorem de_binO {op : Operator} (c : Nat) (tk : Takes X W) (hK : X.K = k.K) (ha : PE X o (LE k W mo)) (hbb : PE X b (LE k W me)) (hc : PySem.W.selfFirst k.K (k.cl c) = true) (hs : PySem.W.findIn k.K (.ref (k.cl c)) (PySem.dunder op.info.2) = some (some (.ref g))) (hf : PySem.W.isFn k.K (.ref g) = true)
    (F : FnG X.prog X.w X.K X.mg X.base lev g fd ps (SpD k np m)) (ar : Ar np m) (hr : RoomG lev X.A) (hb : Binds X.K fd ps []) : PE X (.BinOp o op b pos) (LE k W (mBinO c m mo me)) :=
  (pe_opX (op_addO (by rw [hK]; exact hc) (by rw [hK]; exact hs) (by rw [hK]; exact hf) F hr hb fun σ => passAt tk σ) ha hbb).cq fun _ _ _ h => le_binO ar h
end
end CT
set_option maxHeartbeats 4000000
/-! DLM: what the head says of own operators. -/
namespace CT
open PySem L2 PySem.Spec PyProof.Rows
section
variable {K : PySem.W.Frag}
/-- a def that the class has under a name -/
structure DnOk (K : PySem.W.Frag) (C : Addr) (f : Str) (g : Addr) : Prop where
  at_ : PySem.W.findIn K (.ref C) f = some (some (.ref g))
  fn : PySem.W.isFn K (.ref g) = true
  fi : PySem.W.fnIn K g = true
theorem dnB_ok {x f : Str} (h : dnB x f K = true) : DnOk K (He.ga K x) f (He.ma K (He.ga K x) f) := by
  obtain ⟨h1, h⟩ := He.ba h
  obtain ⟨h2, h3⟩ := He.ba h
  exact ⟨He.eqO_ok h1, h2, h3⟩
theorem sfB_ok {x : Str} (h : sfB x K = true) : PySem.W.selfFirst K (He.ga K x) = true := h
end
end CT
set_option maxHeartbeats 4000000
/-! DLN: t[::-1], xs[::-1], t[lo:hi]. -/
namespace CT
open PySem L2 PySem.Spec PyProof.Rows HT
def mRevL (own : Bool) (m : ME) : ME := fun F C => bnd (m F C) fun x C1 => match vL x C1 with
  | some xs => ofO (some (mkL own xs.reverse C1))
  | none => .stuck
section
variable {X : Cx} {k : Cn} {W : WX} {σ : L2.St} {H : Hp} {Q : VK} {e : Expr} {te : TE} {kk : Nat} {p1 p2 p3 pos : Pos} {ma : ME}
theorem rep_rev {A : Nat → Addr} {S : Store} : ∀ {vs : List V} {xs : List D}, RepL k A S H vs xs → RepL k A S H vs.reverse xs.reverse
  | _, _, .nil => .nil
  | _, _, .cons h t => by
    rw [List.reverse_cons, List.reverse_cons]
    exact (rep_rev t).append (.cons h .nil)
theorem le_revL {own : Bool} (h : LE k W (mRevL own ma) σ H Q) : tRevL k.K (LE k W ma) σ H Q := by
  obtain ⟨A, F, C, s, h⟩ := h
  refine ⟨A, F, C, s, (Aft.bnd (rel := RepD k) h).mono fun dx C1 A1 H1 v p1 st1 r1 h1 => ?_⟩
  have s1 := s.step p1 st1
  split at h1
  · rename_i xs ev
    obtain ⟨a, vs, rfl, ha, rv⟩ := vL_at st1 r1 ev
    refine ⟨a, vs, rfl, .inl (.inl ha), fun p hp => ?_⟩
    obtain ⟨A4, w1, w2, w3⟩ := fresh_L (own := own) s1.fl st1 (rep_rev rv) hp
    exact h1 A4 _ _ w1 w2 w3
  · exact h1.elim
theorem de_revL (own : Bool) (hK : X.K = k.K) (he : PE X e (LE k W ma)) : PE X (.Subscript e (.Slice none none (some (.UnaryOp .USub (.Constant (.int 1) kk p1) p2)) p3) pos) (LE k W (mRevL own ma)) :=
  (pe_revL he).cq fun _ _ _ h => by
    rw [hK]
    exact le_revL h
end
end CT
set_option maxHeartbeats 4000000
/-! DLO: errors of the program's own: made and raised. -/
namespace CT
open PySem L2 PySem.Spec PyProof.Rows
/-! ### what the head says of an error class -/
theorem oexB_ok {x : Str} {K : PySem.W.Frag} (h : oexB x K = true) : OexC K (He.ga K x) := by
  obtain ⟨h1, h⟩ := He.ba h
  obtain ⟨h2, h⟩ := He.ba h
  obtain ⟨h3, h⟩ := He.ba h
  obtain ⟨h4, h5⟩ := He.ba h
  refine ⟨?_, He.eqO_ok h2, of_decide_eq_true h3, of_decide_eq_true h4, h5⟩
  split at h1
  · rename_i t dd cd sl ho
    obtain ⟨g1, h1⟩ := He.ba h1
    obtain ⟨g2, h1⟩ := He.ba h1
    obtain ⟨g3, h1⟩ := He.ba h1
    split at h1
    · rename_i C' bm k0 k1 k2 k3 n k5 hm hs
      obtain ⟨a1, h1⟩ := He.ba h1
      obtain ⟨a2, a3⟩ := He.ba h1
      have e1 := of_decide_eq_true a1
      have e2 := of_decide_eq_true a2
      have e3 := of_decide_eq_true g1
      obtain ⟨nm, bs, mro, ns, qn, hd, sn, sub, ab, col, del⟩ := cd
      simp only at g2 g3 hm
      have hdel : del = false := by simpa using g3
      have hsl : sl = #[k0, k1, k2, k3, some (.builtin n), k5] := by
        obtain ⟨l⟩ := sl
        simp only at hs
        rw [hs]
      subst e2 e3 hdel hsl g2 hm
      rw [e1] at ho
      exact ⟨nm, qn, ns, bs, bm, sn, sub, ab, col, dd, k0, k1, k2, k3, k5, ho, a3⟩
    · cases h1
  · cases h1
/-- the class has an own __init__ -/
structure XIni (K : PySem.W.Frag) (C fI : Addr) : Prop where
  ox : OexC K C
  at_ : PySem.W.findIn K (.ref C) "__init__" = some (some (.ref fI))
  ty : PySem.W.typeIn K (.ref fI) = some (.type "function")
theorem xiB_ok {x : Str} {K : PySem.W.Frag} (h : xiB x K = true) : XIni K (He.ga K x) (He.ma K (He.ga K x) "__init__") := by
  obtain ⟨h1, h⟩ := He.ba h
  obtain ⟨h2, h3⟩ := He.ba h
  exact ⟨oexB_ok h1, He.eqO_ok h2, of_decide_eq_true h3⟩
/-! ### __init__: one field, two fields -/
def spX1 (C : Addr) (f : Str) : Sp := fun vs H Q _ => ∃ a v, vs = [.ref a, v] ∧ H a = some (exo a C none) ∧ ∀ dx, H dx = none → dx ≠ a → Q .non (upd (upd H dx (exd dx [(f, v)])) a (exo a C (some dx)))
def spX2 (C : Addr) (f g : Str) : Sp := fun vs H Q _ => ∃ a v u, vs = [.ref a, v, u] ∧ H a = some (exo a C none) ∧ ∀ dx, H dx = none → dx ≠ a → Q .non (upd (upd (upd H dx (exd dx [(f, v)])) a (exo a C (some dx))) dx (exd dx [(g, u), (f, v)]))
section
variable {P : Program} {w : World} {K : PySem.W.Frag} {mg : Str → Option Value} {base : Heap} {x qual : Str} {params : Arguments} {body : List Stmt} {scope : Scope} {f : Addr} {fd : FuncData} {N : List Str} {C : Addr} {fl gl : Str}
theorem x1_ok {ps : List Str} (F : FunD K x qual params body scope [] [] f fd) (S : FnScope N ps scope) (hp : ps.length = 2) (hN : N.length = 2) (T : OexC K C) (hno : PySem.W.findIn K (.ref C) fl = some none)
    (hb : ∀ (cdv : Value) (A : Around) (outer : List Env) (s : Shared) (H : Hp) (E : XK), PSs (cxOf CX0 P w K mg base N qual scope f cdv A outer s H E) body (tOst K fl (tVar 0) (tVar 1))) : FnOk P w K mg base CX0 1 f fd ps (spX1 C fl) := by
  refine F.ok S (fun vs H Q E h => ?_) (fun cdv A outer s H vs Q E hr h => ⟨_, hb cdv A outer s H E, ?_⟩)
  · obtain ⟨a, v, rfl, _⟩ := h
    rw [hp]
    rfl
  · obtain ⟨a, v, rfl, ha, hq⟩ := h
    have e : L2.start N [.ref a, v] = [some (.ref a), some v] := by
      unfold L2.start
      rw [hN]
      rfl
    rw [e]
    exact ⟨v, rfl, .ref a, rfl, a, C, rfl, T, hno, .inl ⟨ha, fun dx h1 h2 => hq dx h1 h2⟩⟩
theorem x2_ok {ps : List Str} (F : FunD K x qual params body scope [] [] f fd) (S : FnScope N ps scope) (hp : ps.length = 3) (hN : N.length = 3) (T : OexC K C) (hno : PySem.W.findIn K (.ref C) fl = some none) (hno2 : PySem.W.findIn K (.ref C) gl = some none)
    (hb : ∀ (cdv : Value) (A : Around) (outer : List Env) (s : Shared) (H : Hp) (E : XK), PSs (cxOf CX0 P w K mg base N qual scope f cdv A outer s H E) body (tSeq (tOst K fl (tVar 0) (tVar 1)) (tOst K gl (tVar 0) (tVar 2)))) : FnOk P w K mg base CX0 1 f fd ps (spX2 C fl gl) := by
  refine F.ok S (fun vs H Q E h => ?_) (fun cdv A outer s H vs Q E hr h => ⟨_, hb cdv A outer s H E, ?_⟩)
  · obtain ⟨a, v, u, rfl, _⟩ := h
    rw [hp]
    rfl
  · obtain ⟨a, v, u, rfl, ha, hq⟩ := h
    have e : L2.start N [.ref a, v, u] = [some (.ref a), some v, some u] := by
      unfold L2.start
      rw [hN]
      rfl
    rw [e]
    refine ⟨v, rfl, .ref a, rfl, a, C, rfl, T, hno, .inl ⟨ha, fun dx h1 h2 => ?_⟩⟩
    refine ⟨u, rfl, .ref a, rfl, a, C, rfl, T, hno2, .inr ⟨dx, [(fl, v)], upd_same, ?_, by simp, hq dx h1 h2⟩⟩
    rw [upd_ne h2]
    exact upd_same
end
/-! ### raise C(e, ..) -/
section
variable {X : Cx} {k : Cn} {W : WX} {σ : L2.St} {H : Hp} {E : Ends} {ma : MA} {c : Nat}
theorem hp_end {H1 : Hp} {a dx : Addr} {o o' o'' o3 : HO} (ha : H1 a = none) (hn : dx ≠ a) : upd (del (upd (upd (upd H1 a o) dx o') a o'') a) dx o3 = upd H1 dx o3 := by
  funext b
  by_cases h1 : b = dx
  · subst h1
    rw [upd_same, upd_same]
  · rw [upd_ne h1, upd_ne h1]
    by_cases h2 : b = a
    · subst h2
      rw [del_same, ha]
    · rw [del_ne h2, upd_ne h2, upd_ne h1, upd_ne h2]
theorem hp_end2 {H1 : Hp} {a dx : Addr} {o o' o'' o3 o4 : HO} (ha : H1 a = none) (hn : dx ≠ a) : upd (del (upd (upd (upd (upd H1 a o) dx o') a o'') dx o4) a) dx o3 = upd H1 dx o3 := by
  funext b
  by_cases h1 : b = dx
  · subst h1
    rw [upd_same, upd_same]
  · rw [upd_ne h1, upd_ne h1]
    by_cases h2 : b = a
    · subst h2
      rw [del_same, ha]
    · rw [del_ne h2, upd_ne h1, upd_ne h2, upd_ne h1, upd_ne h2]
theorem ls_raise1 {f : Str} (hf : k.fn c = [f]) (h : LS k W (sRaise c 1 ma) E σ H) : tMkO (k.cl c) (spX1 (k.cl c) f) [] (LA k W ma) σ H (fun cls d H' => W cls d σ H') := by
  obtain ⟨A, F, C, s, h⟩ := h
  refine ⟨A, F, C, s, (AftS.bnd (rel := RepDs k) s h).mono fun ds C1 A1 H1 vs p st r h1 => ?_⟩
  split at h1
  · rename_i hl
    have r' : RepL k A1 C1 H1 vs ds := r
    match ds, vs, r', hl, h1 with
    | [d], [v], r', _, h1 =>
      have s1 := s.step p st
      refine ⟨by simp, fun a ha => ⟨a, v, rfl, upd_same, fun dx hd hn => ⟨rfl, dx, [(f, v)], upd_same, ?_, ?_, ?_⟩⟩⟩
      · rw [upd_ne hn]
        exact upd_same
      · rw [upd_ne hn] at hd
        exact hd
      · rw [upd_ne hn] at hd
        rw [hp_end ha hn]
        have q : Kp A1 C1 H1 A1 C1 (upd H1 dx (.xd [(f, v)])) := kp_new hd
        have st2 := st.new (o := .xd [(f, v)]) hd
        exact h1 A1 σ (upd H1 dx (.xd [(f, v)])) dx [v] q.stp0 (s1.step q.stp0 st2) (by rw [hf]; exact upd_same) (by rw [hf]; rfl) (r'.kp q)
  · exact h1.elim
theorem ls_raise2 {f g : Str} (hf : k.fn c = [g, f]) (h : LS k W (sRaise c 2 ma) E σ H) : tMkO (k.cl c) (spX2 (k.cl c) f g) [] (LA k W ma) σ H (fun cls d H' => W cls d σ H') := by
  obtain ⟨A, F, C, s, h⟩ := h
  refine ⟨A, F, C, s, (AftS.bnd (rel := RepDs k) s h).mono fun ds C1 A1 H1 vs p st r h1 => ?_⟩
  split at h1
  · rename_i hl
    have r' : RepL k A1 C1 H1 vs ds := r
    match ds, vs, r', hl, h1 with
    | [d, e], [v, u], r', _, h1 =>
      have s1 := s.step p st
      refine ⟨by simp, fun a ha => ⟨a, v, u, rfl, upd_same, fun dx hd hn => ⟨rfl, dx, [(g, u), (f, v)], ?_, upd_same, ?_, ?_⟩⟩⟩
      · rw [upd_ne (fun z => hn z.symm)]
        exact upd_same
      · rw [upd_ne hn] at hd
        exact hd
      · rw [upd_ne hn] at hd
        rw [hp_end2 ha hn]
        have q : Kp A1 C1 H1 A1 C1 (upd H1 dx (.xd [(g, u), (f, v)])) := kp_new hd
        have st2 := st.new (o := .xd [(g, u), (f, v)]) hd
        exact h1 A1 σ (upd H1 dx (.xd [(g, u), (f, v)])) dx [u, v] q.stp0 (s1.step q.stp0 st2) (by rw [hf]; exact upd_same) (by rw [hf]; rfl) ((rep_rev r').kp q)
  · exact h1.elim
variable {fI : Addr} {fd : FuncData} {ps : List Str} {x : Str} {e : Expr} {es : List Expr} {p pos pos' : Pos} {lev : Nat}
theorem ds_raise1 (c : Nat) {f : Str} (hc : X.calm = true) (tk : Takes X W) (hK : X.K = k.K) (T : XIni k.K (k.cl c) fI) (hf : k.fn c = [f]) (F1 : FnOk X.prog X.w X.K X.mg X.base CX0 lev fI fd ps (spX1 (k.cl c) f)) (hr : RoomG (lev + 1) X.A) (hb : Binds X.K fd ps [])
    (hg : Gl X x) (hm : X.mg x = some (.ref (k.cl c))) (ha : PA X (e :: es) (LA k W ma)) (hdb : (x == ("__debug__" : Str)) = false := by decide) (he : starEach (e :: es) X.env = (false, eval e X.env) :: starEach es X.env := by rfl) (hpl : (backTo pos (starEach es X.env)).any (·.1) = false := by rfl) :
    PS X (.Raise (some (.Call (.Name x p) (e :: es) [] pos)) none pos') (LS k W (sRaise c 1 ma)) :=
  (ps_raise hc tk (pmk_oex (C := k.cl c) (by rw [hK]; exact T.ox) (by rw [hK]; exact T.at_) (by rw [hK]; exact T.ty) F1 hr.room hb .nil (fun _ _ _ _ _ _ _ h => h.elim) hg hm ha hdb he hpl)).cq fun _ _ _ h => ls_raise1 hf h
theorem ds_raise2 (c : Nat) {f g : Str} (hc : X.calm = true) (tk : Takes X W) (hK : X.K = k.K) (T : XIni k.K (k.cl c) fI) (hf : k.fn c = [g, f]) (F1 : FnOk X.prog X.w X.K X.mg X.base CX0 lev fI fd ps (spX2 (k.cl c) f g)) (hr : RoomG (lev + 1) X.A) (hb : Binds X.K fd ps [])
    (hg : Gl X x) (hm : X.mg x = some (.ref (k.cl c))) (ha : PA X (e :: es) (LA k W ma)) (hdb : (x == ("__debug__" : Str)) = false := by decide) (he : starEach (e :: es) X.env = (false, eval e X.env) :: starEach es X.env := by rfl) (hpl : (backTo pos (starEach es X.env)).any (·.1) = false := by rfl) :
    PS X (.Raise (some (.Call (.Name x p) (e :: es) [] pos)) none pos') (LS k W (sRaise c 2 ma)) :=
  (ps_raise hc tk (pmk_oex (C := k.cl c) (by rw [hK]; exact T.ox) (by rw [hK]; exact T.at_) (by rw [hK]; exact T.ty) F1 hr.room hb .nil (fun _ _ _ _ _ _ _ h => h.elim) hg hm ha hdb he hpl)).cq fun _ _ _ h => ls_raise2 hf h
end
end CT
set_option maxHeartbeats 4000000
/-! DLP: try: .. except C as n: .. return; the error is held as data. -/
namespace CT
open PySem L2 PySem.Spec PyProof.Rows
/-- k, with the error at a held -/
def Cn.hold (k : Cn) (a : Addr) (c : Nat) (dd : Addr) : Cn := { k with ex := some (a, c, dd) }
section
variable {k : Cn} {A A' : Nat → Addr} {C C' : Store} {H H' : Hp} {a dd : Addr} {c : Nat} {fl : Nat}
mutual
theorem Rep.up (hk : k.ex = none) : ∀ {v : V} {d : D}, Rep k A C H v d → Rep (k.hold a c dd) A C H v d
  | _, _, .non => .non
  | _, _, .bl b => .bl b
  | _, _, .int i => .int i
  | _, _, .str s => .str s
  | _, _, .lst l h r => .lst l h (r.up hk)
  | _, _, .tup l h r => .tup l h (r.up hk)
  | _, _, .ktup h r => .ktup h (r.up hk)
  | _, _, .scr l h r => .scr l h (r.up hk)
  | _, _, .kscr h r => .kscr h (r.up hk)
  | _, _, .obj l h z r => .obj l h z (r.up hk)
  | _, _, .dT l h r => .dT l h (r.up hk)
  | _, _, .cell hi => .cell hi
  | _, _, .cls c => .cls c
  | _, _, .exn x l h z r => by rw [hk] at x; cases x
theorem RepL.up (hk : k.ex = none) : ∀ {vs : List V} {ds : List D}, RepL k A C H vs ds → RepL (k.hold a c dd) A C H vs ds
  | _, _, .nil => .nil
  | _, _, .cons r t => .cons (r.up hk) (t.up hk)
end
mutual
theorem Rep.down : ∀ {v : V} {d : D}, Rep (k.hold a c dd) A C H v d → CT.nx d = true → Rep k A C H v d
  | _, _, .non, _ => .non
  | _, _, .bl b, _ => .bl b
  | _, _, .int i, _ => .int i
  | _, _, .str s, _ => .str s
  | _, _, .lst l h r, z => .lst l h (r.down (by simpa [CT.nx] using z))
  | _, _, .tup l h r, z => .tup l h (r.down (by simpa [CT.nx] using z))
  | _, _, .ktup h r, z => .ktup h (r.down (by simpa [CT.nx] using z))
  | _, _, .scr l h r, z => .scr l h (r.down (by simpa [CT.nx] using z))
  | _, _, .kscr h r, z => .kscr h (r.down (by simpa [CT.nx] using z))
  | _, _, .obj l h e r, z => .obj l h e (r.down (by simpa [CT.nx] using z))
  | _, _, .dT l h r, z => .dT l h (r.down (by simpa [CT.nx] using z))
  | _, _, .cell hi, _ => .cell hi
  | _, _, .cls c, _ => .cls c
  | _, _, .exn x l h e r, z => by cases z
theorem RepL.down : ∀ {vs : List V} {ds : List D}, RepL (k.hold a c dd) A C H vs ds → CT.nxL ds = true → RepL k A C H vs ds
  | _, _, .nil, _ => .nil
  | _, _, .cons r t, z => by
    simp [CT.nxL] at z
    exact .cons (r.down z.1) (t.down z.2)
end
theorem StOk.up (hk : k.ex = none) (st : StOk k A C H) : StOk (k.hold a c dd) A C H := by
  refine ⟨fun i x e => ?_, st.inj⟩
  have q := st.at_ i x e
  cases x with
  | lst ds => obtain ⟨vs, h1, r⟩ := q; exact ⟨vs, h1, r.up hk⟩
  | dT ks ds => obtain ⟨vs, h1, h2, r⟩ := q; exact ⟨vs, h1, h2, r.up hk⟩
  | ins c' ds => obtain ⟨dx, vs, h1, h2, r⟩ := q; exact ⟨dx, vs, h1, h2, r.up hk⟩
theorem StOk.down (hk : k.ex = none) (st0 : StOk k A C H) (st : StOk (k.hold a c dd) A' C H') : StOk k A' C H' := by
  refine ⟨fun i x e => ?_, st.inj⟩
  have q := st.at_ i x e
  have q0 := st0.at_ i x e
  cases x with
  | lst ds =>
    obtain ⟨vs, h1, r⟩ := q
    obtain ⟨_, _, r0⟩ := q0
    exact ⟨vs, h1, r.down (r0.nx hk)⟩
  | dT ks ds =>
    obtain ⟨vs, h1, h2, r⟩ := q
    obtain ⟨_, _, _, r0⟩ := q0
    exact ⟨vs, h1, h2, r.down (r0.nx hk)⟩
  | ins c' ds =>
    obtain ⟨dx, vs, h1, h2, r⟩ := q
    obtain ⟨_, _, _, _, r0⟩ := q0
    exact ⟨dx, vs, h1, h2, r.down (r0.nx hk)⟩
theorem Stp.down (hk : k.ex = none) (p : Stp (k.hold a c dd) fl A C H A' C' H') : Stp k fl A C H A' C' H' := ⟨fun v d r => (p.rep v d (r.up hk)).down (r.nx hk), p.len, p.low⟩
theorem StOk.notXd {fs : List (Str × V)} (st : StOk k A C H) (h : H dd = some (.xd fs)) : ¬ Live A C dd := by
  rintro ⟨i, x, e, rfl⟩
  have q := st.at_ i x e
  cases x with
  | lst ds => obtain ⟨vs, h1, r⟩ := q; rw [h] at h1; cases h1
  | dT ks ds => obtain ⟨vs, h1, h2, r⟩ := q; rw [h] at h1; cases h1
  | ins c' ds => obtain ⟨dx, vs, h1, h2, r⟩ := q; rw [h] at h1; cases h1
end
open Classical in
/-- the clause's suite must return a value without the error, and change no cell -/
noncomputable def sTry (i : Nat) (cs ds : List Nat) (mb mh : MS) : MS := fun F C => match mb F C with
  | .xc e sl C' => if e.c ∈ cs then (match mh ⟨F.fl, sl.set i (some (.exn e.c e.fs))⟩ C' with
      | .rt d C2 => if C2 = C' ∧ nx d = true then .rt d C' else .stuck
      | _ => .stuck) else if e.c ∈ ds then .xc e sl C' else .stuck
  | r => r
section
variable {X : Cx} {k : Cn} {W : WX} {σ : L2.St} {H : Hp} {E : Ends} {mb mh : MS} {i : Nat} {cs ds : List Nat} {cv : Value} {x n : Str} {body suite : List Stmt} {b₀ : Stmt} {np pos pos' : Pos}
/-- what the clause wishes -/
def tsX (k : Cn) (cs : List Nat) (mh : MS) : Addr → Value → Option Addr → TS := fun a cls d D σ H => ∃ c dd, c ∈ cs ∧ cls = .ref (k.cl c) ∧ d = some dd ∧ LS (k.hold a c dd) (fun _ _ _ _ => False) mh D σ H
theorem ls_try (hk : k.ex = none) (hy : ∀ c ∈ cs, PySem.W.exmOne k.K (.ref (k.cl c)) cv = some true) (hn : ∀ c ∈ ds, PySem.W.exmOne k.K (.ref (k.cl c)) cv = some false) (h : LS k W (sTry i cs ds mb mh) E σ H) : LS k (wAs k.K cv i (tsX k cs mh) W E) mb E σ H := by
  obtain ⟨A, F, C, s, h⟩ := h
  refine ⟨A, F, C, s, ?_⟩
  unfold sTry at h
  cases em : mb F C with
  | nx sl C' => rw [em] at h; exact h
  | bk sl C' => rw [em] at h; exact h
  | ct sl C' => rw [em] at h; exact h
  | rt d C' => rw [em] at h; exact h
  | stuck => rw [em] at h; exact h
  | xc e sl C' =>
    rw [em] at h
    simp only at h
    intro A' σ' H' dd vs p sr hx hl r
    split at h
    · rename_i hc
      refine ⟨true, hy _ hc, fun _ a ha => ⟨e.c, dd, hc, rfl, rfl, A', ⟨F.fl, sl.set i (some (.exn e.c e.fs))⟩, C', ?_, ?_⟩, (fun z => by cases z)⟩
      · have su : SR (k.hold a e.c dd) A' ⟨F.fl, sl⟩ C' σ' H' := ⟨sr.st.up hk, sr.low, sr.fl, sr.len, fun j d e' => let ⟨v, h1, h2⟩ := sr.sl j d e'; ⟨v, h1, h2.up hk⟩⟩
        exact su.set (.exn rfl (sr.st.notXd hx) hx hl (r.up hk))
      · cases eh : mh ⟨F.fl, sl.set i (some (.exn e.c e.fs))⟩ C' with
        | rt d C2 =>
          rw [eh] at h
          simp only at h
          split at h
          · rename_i hq
            obtain ⟨rfl, hnx⟩ := hq
            intro A2 H2 v p2 st2 r2
            exact h A2 H2 v (p.trans (p2.down hk)) (StOk.down hk sr.st st2) (r2.down hnx)
          · exact h.elim
        | nx sl2 C2 => rw [eh] at h; exact h.elim
        | bk sl2 C2 => rw [eh] at h; exact h.elim
        | ct sl2 C2 => rw [eh] at h; exact h.elim
        | xc e2 sl2 C2 => rw [eh] at h; exact h.elim
        | stuck => rw [eh] at h; exact h.elim
    · split at h
      · rename_i hc
        exact ⟨false, hn _ hc, (fun z => by cases z), fun _ => h A' σ' H' dd vs p sr hx hl r⟩
      · exact h.elim
theorem ds_try (hs : X.stack = X.env :: X.outer) (hf : X.env.frame = some X.env.locals) (hN : X.N.Nodup) (hi : X.N[i]? = some n) (hln : X.env.kindOf n = some .local) (hc : Names X x cv) (tk : Takes X W) (hK : X.K = k.K) (hk : k.ex = none)
    (hy : ∀ c ∈ cs, PySem.W.exmOne k.K (.ref (k.cl c)) cv = some true) (hn : ∀ c ∈ ds, PySem.W.exmOne k.K (.ref (k.cl c)) cv = some false)
    (hb : ∀ (W : WX) (pn : List (Addr × Obj)) (xe : Value → Shared → Prop), Takes (X.tr pn xe) W → PassesOwn (model X.prog X.w) X.A X.env xe → PSs (X.tr pn xe) body (LS k W mb))
    (hsu : ∀ (a : Addr) (oe : Obj) (c : Nat) (dd : Addr) (pn : List (Addr × Obj)), c ∈ cs → Zc (.ref (k.cl c)) (some dd) oe → (∃ vs, oe.data = .fields vs) → PSs (X.suite a ((a, oe) :: pn)) (b₀ :: suite) (LS (k.hold a c dd) (fun _ _ _ _ => False) mh)) :
    PS X (.Try body [.ExceptHandler (some (.Name x np)) (some n) (b₀ :: suite) pos'] [] [] pos) (LS k W (sTry i cs ds mb mh)) :=
  (ps_try_as (tb := fun W => LS k W mb) (ts := tsX k cs mh) hs hf hN hi hln hc tk hb (fun a oe cls d pn hz hv => ⟨fun pins s σ H D I h => by
    obtain ⟨c, dd, hc', rfl, rfl, h⟩ := h
    exact (hsu a oe c dd pn hc' hz hv).run pins s σ H D I h⟩)).cq fun D σ H h => by
    rw [hK]
    exact ls_try hk hy hn h
/-! ### the held error's fields -/
def oXf (c n : Nat) : O1 := fun x C => match x with
  | .exn c' fs => if c' = c then (fs[n]?).map fun d => (d, C) else none
  | _ => none
theorem le_xf {c c' : Nat} {a dd : Addr} {f : Str} {nn : Nat} {me : ME} {Q : VK} (nd : (k.fn c).Nodup) (hf : (k.fn c)[nn]? = some f) (h : LE (k.hold a c' dd) W (mUn (oXf c nn) me) σ H Q) : tXf a (.ref (k.cl c')) (some dd) (k.cl c) f (LE (k.hold a c' dd) W me) σ H Q := by
  obtain ⟨A, F, C, s, h⟩ := h
  refine ⟨A, F, C, s, (Aft.bnd (rel := RepD (k.hold a c' dd)) h).mono fun dx C1 A1 H1 v p1 st1 r1 h1 => ?_⟩
  obtain ⟨d, C', e, q⟩ := aft_ofO h1
  cases r1 with
  | @exn a0 dd0 c0 vs ds0 x l hx hl rv =>
    simp only [oXf] at e
    split at e
    · rename_i hcc
      subst hcc
      cases x
      cases ed : ds0[nn]? with
      | none => rw [ed] at e; cases e
      | some d0 =>
        rw [ed] at e
        cases e
        obtain ⟨u, h2, h3⟩ := rv.get ed
        exact ⟨rfl, rfl, dd, _, u, rfl, hx, zip_look nd hf h2, q A1 H1 u Stp.refl st1 h3⟩
    · cases e
  | _ => cases e
theorem de_xf {a : Addr} {oe : Obj} {c' : Nat} {dd : Addr} {pn : List (Addr × Obj)} (c nn : Nat) {f : Str} {e : Expr} {me : ME} (hK : X.K = k.K) (T : XfC k.K (k.cl c)) (hno : PySem.W.findIn k.K (.ref (k.cl c)) f = some none) (nd : (k.fn c).Nodup) (hfn : (k.fn c)[nn]? = some f)
    (hz : Zc (.ref (k.cl c')) (some dd) oe) (hv : ∃ vs, oe.data = .fields vs) (he : PE (X.suite a ((a, oe) :: pn)) e (LE (k.hold a c' dd) W me)) (hb : attributeBase e f X.env (eval e X.env) = eval e X.env := by rfl) :
    PE (X.suite a ((a, oe) :: pn)) (.Attribute e f pos) (LE (k.hold a c' dd) W (mUn (oXf c nn) me)) :=
  (pe_xf (C := k.cl c) (by rw [hK]; exact T) (by rw [hK]; exact hno) hz hv he hb).cq fun _ _ _ h => le_xf nd hfn h
end
end CT
set_option maxHeartbeats 4000000
/-! DLQ: isinstance of the held error. -/
namespace CT
open PySem L2 PySem.Spec PyProof.Rows PySem.W
section
variable {prog : Program} {w : World} {A : Around} {E : Value → Shared → Prop} {s : Shared} {K : Frag} {x D : Addr} {ox od : Obj}
/-- err.__class__, the error having a dict -/
theorem cls_of_err {Q : Option Value → Shared → Prop} (T : ExcC K D) (KX : K.In s.heap) (J : InstAt s.heap x ox D (some od)) (q : Q (some (.ref D)) { s with toks := s.toks + 1 }) : wpAny (model prog w) A (getAttr? (.ref x) "__class__") Q E s := by
  have ic : (clsIn K D).isSome = true := by
    obtain ⟨cd, hc, _⟩ := any_some T.hd
    rw [hc]
    rfl
  have hf : findObj K D (some od) "__class__" = some (.bind (.builtin "getset_descriptor.__get__") (.builtin "object.__class__")) := findObj_data ic T.ha T.hn T.ht
  obtain ⟨hp, g, d, t, os⟩ := s
  have l0 := J.type (M := model prog w)
  have l1 := looks_findIn (M := model prog w) KX T.hg
  have l2 := looks_findIn (M := model prog w) KX T.hk
  have l3 := looks_find (M := model prog w) KX J hf
  have sub : Looks (model prog w) hp (isInstance (.ref x) (.type "BaseException")) true := l0.andThen (looks_subIn KX T.hs)
  have no : (Value.builtin "BaseException.__getattribute__" == Value.builtin "object.__getattribute__") = false := by decide +kernel
  have n1 : (onTheHeap (Value.ref D) && Value.builtin "BaseException.__getattribute__" == Value.builtin "object.__getattribute__") = false := by
    rw [no]
    rfl
  have n0 : (false && onTheHeap (Value.builtin "BaseException.__getattribute__")) = false := rfl
  unfold getAttr? getAttrBy? getAttrBy
  refine wpAny_bind (wpAny_mkText (wpAny_bind (wpAny_attempt (wpAny_holding (wpAny_bind (l0.at (wpAny_bind (l1.at ?_))))))))
  show wpAny _ _ (if (onTheHeap (Value.ref D) && Value.builtin "BaseException.__getattribute__" == Value.builtin "object.__getattribute__") = true then _ else _) _ _ _
  rw [n1, if_neg Bool.false_ne_true]
  unfold getAttrByItsOwn hookBefore
  refine wpAny_bind ?_
  rw [if_pos (show onTheHeap (Value.ref D) = true from rfl)]
  refine l2.at (wpAny_bind (wpAny_attempt (wpAny_holding ?_)))
  unfold callGetattribute
  rw [n0, if_neg Bool.false_ne_true]
  unfold boundAndCalled
  rw [PySem.F.excAttr_ValueError.ga.bind (.ref x)]
  refine wpAny_bind (wpAny_pure ?_)
  show wpAny _ _ (call (.builtin "BaseException.__getattribute__") [.ref x, .str "__class__" t]) _ _ _
  refine wpAny_call (codeAny_call_builtin PySem.F.excAttr_ValueError.ga.plain PySem.F.entry_bexc_ga (@check_slot (model prog w) _ _ ⟨hp, g, d, t + 1, os⟩ "BaseException.__getattribute__" "BaseException" "__getattribute__" (.ref x) [.str "__class__" t] [] _ (by decide +kernel) (by decide +kernel) sub (PySem.F.args_bexc_ga (.ref x) (.str "__class__" t)) ?_))
  unfold Builtin.«object.__getattribute__»
  refine wpAny_bind (wpAny_of_eq (a := ((Value.ref x : Value), [Value.str "__class__" t])) (by first | rfl | (simp only [slotArgs]; rfl)) ?_)
  refine wpAny_bind (wpAny_pure (wpAny_bind (l0.at (wpAny_bind (l3.at ?_)))))
  show wpAny _ _ (holding [Value.builtin "object.__class__"] (call (.builtin "getset_descriptor.__get__") [.builtin "object.__class__", .ref x, .ref D]) >>= ret) _ _ _
  refine wpAny_bind (wpAny_holding (wpAny_call (class_get (s := ⟨hp, g, d, t + 1, os⟩) (ox := ox) (od := some od) KX J T.hm (wpAny_pure ?_))))
  show wpAny _ _ (handedOut (.ref D)) _ _ _
  rw [handedOut_of (v := .ref D) rfl]
  first
    | exact wpAny_pure (wpAny_pure q)
    | exact wpAny_pure q
    | exact wpAny_pure (wpAny_bind (wpAny_pure (wpAny_pure q)))
theorem kit_err (T : ExcC K D) : KitX K (.ref x) (.ref D) (fun h => InstAt h x ox D (some od)) where
  ty := fun _ _ _ I => I.type
  it := fun _ _ KX _ => by
    obtain ⟨cd, hc, _⟩ := any_some T.hd
    unfold clsIn at hc
    split at hc
    · rename_i c' d' cd' sl' ho
      intro A' Q' E' s' k q
      unfold isType loadHead
      exact wpAny_bind (wpAny_loadPart (k _ _ (KX _ _ ho)) (wpAny_pure q))
    · cases hc
  ne := fun h tp dd its n sl KX htp => by
    obtain ⟨cd, hc, _⟩ := any_some T.hd
    refine Bool.eq_false_iff.mpr fun z => ?_
    have e : D = tp := Value.ref.inj (beq_iff_eq.mp z)
    subst e
    unfold clsIn at hc
    split at hc
    · rename_i c' d' cd' sl' ho
      have y := (KX _ _ ho).symm.trans htp
      cases y
    · cases hc
  ca := fun KX I k => cls_of_err T KX I k
end
theorem _root_.L2.ExcC.xf {K : Frag} {D : Addr} (T : ExcC K D) : XfC K D := ⟨T.hg, T.hk, T.hs, T.hd⟩
/-- isinstance(err, C) -/
def rIsX (K : Frag) (D a dd : Addr) : List V → Hp → VK → Prop := fun xs H Q => ∃ (c : V) (cv : Value) (b : Bool) (fs : List (Str × V)), xs = [.ref a, c] ∧ (∀ u, RelV c u → u = cv) ∧ kitOne K (.ref D) cv = some b ∧ H dd = some (.xd fs) ∧ Q (.bl b) H
section
variable {X : Cx} {k : Cn} {W : WX} {σ : L2.St} {H : Hp} {Q : VK}
theorem call_isX {a D dd : Addr} {oe : Obj} {pn : List (Addr × Obj)} (T : ExcC X.K D) (hz : Zc (.ref D) (some dd) oe) (hf : ∃ vs, oe.data = .fields vs) : CallR (X.suite a ((a, oe) :: pn)) (.builtin "isinstance") (rIsX X.K D a dd) := by
  intro pins s σ H xs us Q I r h
  obtain ⟨c, cv, b, fs, rfl, hcv, e, hd, q⟩ := h
  obtain ⟨u1, u2, rfl, r1, r2⟩ := r.two
  cases (show u1 = Value.ref a from r1)
  have ec := hcv _ r2
  subst ec
  obtain ⟨hget, _⟩ := I.pin (a, oe) (List.mem_append_left _ List.mem_cons_self)
  obtain ⟨vs, hv⟩ := hf
  have hx : ObjOk X.prog X.w H s.heap dd (.xd fs) := I.hok dd _ hd
  obtain ⟨mA, hns, _⟩ := hx
  obtain ⟨od, ho, _⟩ := lookIn_ns hns
  have J : InstAt s.heap a oe D (some od) := ⟨hget, hz.1, by unfold notCls; rw [hv] <;> rfl, by rw [hz.2]; exact ho⟩
  exact kia_one (kit_err T) I.kIn J e (fun z => nomatch z) fun tk => ⟨.bl b, H, I.kept (t' := tk) fun _ _ z => z, rfl, q⟩
/-- classes that are told apart -/
def oIsX (kn : List Nat) (t : Nat) : O1 := fun x C => match x with
  | .exn c _ => if c ∈ kn ∧ t ∈ kn then some (.bl (decide (c = t)), C) else none
  | _ => none
structure XsOk (k : Cn) (kn : List Nat) : Prop where
  exc : ∀ c ∈ kn, ExcC k.K (k.cl c)
  own : ∀ c ∈ kn, ∀ c' ∈ kn, kitOne k.K (.ref (k.cl c)) (.ref (k.cl c')) = some (decide (c = c'))
theorem excA_ok {C : Addr} {K : Frag} (h : excA C K = true) : ExcC K C := by
  obtain ⟨h1, h⟩ := He.ba h
  obtain ⟨h2, h⟩ := He.ba h
  obtain ⟨h3, h⟩ := He.ba h
  obtain ⟨h4, h⟩ := He.ba h
  obtain ⟨h5, h⟩ := He.ba h
  obtain ⟨h6, h⟩ := He.ba h
  obtain ⟨h7, h8⟩ := He.ba h
  exact ⟨He.eqO_ok h1, He.eqO_ok h2, of_decide_eq_true h3, h4, He.eqO_ok h5, He.eqO_ok h6, of_decide_eq_true h7, of_decide_eq_true h8⟩
theorem xsB_ok {cl : Frag → Nat → Addr} {kn : List Nat} {k : Cn} {K : Frag} (hK : k.K = K) (hc : k.cl = cl K) (h : xsB cl kn K = true) : XsOk k kn := by
  obtain ⟨h1, h⟩ := He.ba h
  refine ⟨fun c hm => ?_, fun c hm c' hm' => ?_⟩
  · rw [hK, hc]
    exact excA_ok (List.all_eq_true.mp h1 c hm)
  · rw [hK, hc]
    exact of_decide_eq_true (List.all_eq_true.mp (List.all_eq_true.mp h c hm) c' hm')
theorem le_isX {kn : List Nat} {t c' : Nat} {a dd : Addr} {me : ME} (ok : XsOk k kn) (h : LE (k.hold a c' dd) W (mUn (oIsX kn t) me) σ H Q) : tCB (rIsX k.K (k.cl c') a dd) (tCons (LE (k.hold a c' dd) W me) (tCons (tC (.ref (k.cl t))) tNil)) σ H Q := by
  obtain ⟨A, F, C, s, h⟩ := h
  refine ⟨A, F, C, s, (Aft.bnd (rel := RepD (k.hold a c' dd)) h).mono fun dx C1 A1 H1 v p1 st1 r1 h1 => ?_⟩
  obtain ⟨d, C', e, q⟩ := aft_ofO h1
  cases r1 with
  | @exn a0 dd0 c0 vs ds0 x l hx hl rv =>
    simp only [oIsX] at e
    split at e
    · rename_i hcc
      cases x
      cases e
      refine ⟨.ref (k.cl t), .ref (k.cl t), decide (c' = t), _, rfl, fun u hu => hu, ok.own _ hcc.1 _ hcc.2, hx, q A1 H1 _ Stp.refl st1 (.bl _)⟩
    · cases e
  | _ => cases e
theorem de_isX {a : Addr} {oe : Obj} {c' : Nat} {dd : Addr} {pn : List (Addr × Obj)} (t : Nat) {kn : List Nat} {e c : Expr} {p pos : Pos} {me : ME} (hK : X.K = k.K) (hg : Gl (X.suite a ((a, oe) :: pn)) "isinstance") (hm : X.mg "isinstance" = none) (ok : XsOk k kn) (hcc : c' ∈ kn) (hz : Zc (.ref (k.cl c')) (some dd) oe) (hv : ∃ vs, oe.data = .fields vs)
    (he : PE (X.suite a ((a, oe) :: pn)) e (LE (k.hold a c' dd) W me)) (hc : PE (X.suite a ((a, oe) :: pn)) c (tC (.ref (k.cl t))))
    (hs : starEach [e, c] X.env = (false, eval e X.env) :: starEach [c] X.env := by rfl) (hs2 : starEach [c] X.env = (false, eval c X.env) :: starEach [] X.env := by rfl) (hpl : (backTo pos (starEach [c] X.env)).any (·.1) = false := by rfl) :
    PE (X.suite a ((a, oe) :: pn)) (.Call (.Name "isinstance" p) [e, c] [] pos) (LE (k.hold a c' dd) W (mUn (oIsX kn t) me)) :=
  (pe_callB (call_isX (by rw [hK]; exact ok.exc _ hcc) hz hv) hg hm (by decide +kernel) (pa_cons he (pa_cons hc pa_nil hs2) hs) (he := hs) (hpl := hpl)).cq fun _ _ _ h => by
    rw [hK]
    exact le_isX ok h
structure ExmOk (k : Cn) (cv : Value) (cs ds : List Nat) : Prop where
  yes : ∀ c ∈ cs, exmOne k.K (.ref (k.cl c)) cv = some true
  no : ∀ c ∈ ds, exmOne k.K (.ref (k.cl c)) cv = some false
theorem exmB_ok {cl : Frag → Nat → Addr} {x : Str} {cs ds : List Nat} {k : Cn} {K : Frag} (hK : k.K = K) (hc : k.cl = cl K) (h : exmB cl x cs ds K = true) : ExmOk k (.ref (He.ga K x)) cs ds := by
  obtain ⟨h1, h2⟩ := He.ba h
  refine ⟨fun c hm => ?_, fun c hm => ?_⟩
  · rw [hK, hc]
    exact of_decide_eq_true (List.all_eq_true.mp h1 c hm)
  · rw [hK, hc]
    exact of_decide_eq_true (List.all_eq_true.mp h2 c hm)
end
end CT
set_option maxHeartbeats 4000000
/-! DLR: web * k. -/
namespace CT
open PySem L2 PySem.Spec PyProof.Rows PySem.W
section
variable {prog : Program} {w : World} {A : Around} {E : Value → Shared → Prop} {s : Shared} {K : Frag} {x C f g : Addr} {ox : Obj} {od : Option Obj} {nm : String}
theorem byName_K {M : Model} {h : Heap} {t : Value} {name : Str} {v : Addr} : Looks M h (calledByName t name (some (.ref v))) true := .now
theorem numSlot_K {M : Model} {h : Heap} (KX : K.In h) (hs : findIn K (.ref C) (PySem.dunder nm) = some (some (.ref f))) (hr : findIn K (.ref C) (PySem.dunderR nm) = some (some (.ref g))) : Looks M h (numberSlotInPython (.ref C) nm) true := by
  intro A Q E s k q
  unfold numberSlotInPython
  simp only
  refine wpAny_bind (looks_findIn KX hs A _ E s k ?_)
  refine wpAny_bind (byName_K (h := s.heap) A _ E s (fun _ _ z => z) ?_)
  refine wpAny_bind (looks_findIn KX hr A _ E s k ?_)
  refine wpAny_bind (byName_K (h := s.heap) A _ E s (fun _ _ z => z) ?_)
  simp only [Bool.or_self, if_true]
  exact wpAny_pure q
/-- x op k by the class's own def, k an int -/
theorem own_int {op : Operator} {i : Int} {t : Tok} {z : Value} {Q : Value → Shared → Prop} (KX : K.In s.heap) (J : InstAt s.heap x ox C od) (hc : selfFirst K C = true) (hs : findIn K (.ref C) (PySem.dunder op.info.2) = some (some (.ref f))) (hr : findIn K (.ref C) (PySem.dunderR op.info.2) = some (some (.ref g))) (hf : isFn K (.ref f) = true)
    (hsub : subIn K (.type "int") (.ref C) = some false) (hfi : fillsNumberSlot (.type "int") op.info.2 = pure true) (hrl : typeLookup (.type "int") (PySem.dunderR op.info.2) = pure (some z))
    (h : wpAny (model prog w) A (call (.ref f) [.ref x, .int i t]) (PySem.W.CmpBack Q) E s) : wpAny (model prog w) A (binaryOp op (.ref x) (.int i t)) Q E s := by
  obtain ⟨cd, hcd, hm⟩ := any_some hc
  obtain ⟨rest, hm⟩ : ∃ rest, cd.mro = .ref C :: rest := by
    cases q : cd.mro with
    | nil => rw [q] at hm; cases hm
    | cons a r => rw [q] at hm; exact ⟨r, by rw [List.head?_cons] at hm; cases (beq_iff_eq.mp hm); rfl⟩
  have ne : (Value.ref C == Value.type "int") = false := rfl
  have ty : typeOf (.int i t) = pure (.type "int") := rfl
  have ns : numberSlotInPython (.type "int") op.info.2 = pure false := rfl
  unfold binaryOp
  refine wpAny_holding (wpAny_bind ?_)
  unfold binaryOp1
  refine wpAny_bind (J.type.here (wpAny_bind (wpAny_of_eq ty (wpAny_bind ((fills_K KX hcd hm hs).here ?_)))))
  simp only [ne, Bool.false_eq_true, if_false]
  refine wpAny_bind (wpAny_of_eq hfi ?_)
  simp only [Bool.and_self, if_true]
  refine wpAny_bind ((looks_subIn KX hsub).here ?_)
  simp only [Bool.false_eq_true, if_false, Bool.not_false, Bool.and_self, if_true]
  refine wpAny_bind ((numSlot_K KX hs hr).here ?_)
  simp only [if_true]
  refine wpAny_bind (wpAny_of_eq ns ?_)
  simp only [Bool.not_false, if_true]
  refine wpAny_bind (wpAny_of_eq hrl ?_)
  refine wpAny_bind (m := tryMethod (.ref x) _ (.int i t)) ?_
  unfold tryMethod
  refine wpAny_bind (special_fn KX J hs (beq_iff_eq.mp hf) (wpAny_mono h (fun v s' hv => ?_) fun _ _ e => e))
  cases v <;> first | exact hv.elim | exact wpAny_pure (wpAny_pure (wpAny_pure hv))
/-- k op x: the int declines, the class's reflected def is asked -/
theorem int_own {i : Int} {t : Tok} {op : Operator} {id : String} {Q : Value → Shared → Prop} (KX : K.In s.heap) (J : InstAt s.heap x ox C od) (hc : selfFirst K C = true) (hs : findIn K (.ref C) (PySem.dunder op.info.2) = some (some (.ref f))) (hr : findIn K (.ref C) (PySem.dunderR op.info.2) = some (some (.ref g))) (hf : isFn K (.ref g) = true)
    (hsub : subIn K (.ref C) (.type "int") = some false) (hfi : fillsNumberSlot (.type "int") op.info.2 = pure true) (hsl : Slot "int" (PySem.dunder op.info.2) id)
    (hd : wpAny (model prog w) A (call (.builtin id) [.int i t, .ref x]) (fun v s' => v = .notImplemented ∧ s' = s) E s)
    (h : wpAny (model prog w) A (call (.ref g) [.ref x, .int i t]) (PySem.W.CmpBack Q) E s) : wpAny (model prog w) A (binaryOp op (.int i t) (.ref x)) Q E s := by
  obtain ⟨cd, hcd, hm⟩ := any_some hc
  obtain ⟨rest, hm⟩ : ∃ rest, cd.mro = .ref C :: rest := by
    cases q : cd.mro with
    | nil => rw [q] at hm; cases hm
    | cons a r => rw [q] at hm; exact ⟨r, by rw [List.head?_cons] at hm; cases (beq_iff_eq.mp hm); rfl⟩
  have ne : (Value.type "int" == Value.ref C) = false := rfl
  have ty : typeOf (.int i t) = pure (.type "int") := rfl
  have ns : numberSlotInPython (.type "int") op.info.2 = pure false := rfl
  unfold binaryOp
  refine wpAny_holding (wpAny_bind ?_)
  unfold binaryOp1
  refine wpAny_bind (wpAny_of_eq ty (wpAny_bind (J.type.here (wpAny_bind (wpAny_of_eq hfi ?_)))))
  simp only [ne, Bool.false_eq_true, if_false]
  refine wpAny_bind ((fills_K KX hcd hm hs).here ?_)
  simp only [Bool.and_self, if_true]
  refine wpAny_bind ((looks_subIn KX hsub).here ?_)
  simp only [Bool.false_eq_true, if_false, Bool.not_false, Bool.and_self, if_true]
  refine wpAny_bind (wpAny_of_eq ns ?_)
  simp only [Bool.false_eq_true, if_false, if_true]
  refine wpAny_bind (wpAny_tryMethod_declines (typeIs_int s i t) hsl (wpAny_mono hd (fun v s' z => ⟨z.1, ?_⟩) fun _ _ e => e))
  obtain ⟨_, rfl⟩ := z
  refine wpAny_bind (m := tryMethod (.ref x) _ (.int i t)) ?_
  unfold tryMethod
  refine wpAny_bind (special_fn KX J hr (beq_iff_eq.mp hf) (wpAny_mono h (fun v s' hv => ?_) fun _ _ e => e))
  cases v <;> first | exact hv.elim | exact wpAny_pure (wpAny_bind (wpAny_rule (wpAny_pure (wpAny_pure hv)))) | exact wpAny_pure (wpAny_rule (wpAny_pure (wpAny_pure hv)))
end
theorem int_mul_inst (a : Int) (t : Tok) (l C dx : Addr) : Meets (Builtin.«int.__mul__» ⟨[.int a t, .ref l], []⟩) (fun _ R s => s.heap.get? l = some (instObj C dx) ∧ R (.ok (.ret Value.notImplemented)) s) :=
  .of_wp fun prog w A R s h => by
    obtain ⟨hp, g, d, tk, os⟩ := s
    obtain ⟨hl, h⟩ := h
    wp_walk
    exact ⟨_, rfl, h⟩
/-! ### over data -/
/-- what the written part says of a class with * -/
structure MulOk (K : Frag) (C f g : Addr) : Prop where
  sf : selfFirst K C = true
  mul : findIn K (.ref C) (PySem.dunder "mul") = some (some (.ref f))
  rmul : findIn K (.ref C) (PySem.dunderR "mul") = some (some (.ref g))
  fn : isFn K (.ref f) = true
  rfn : isFn K (.ref g) = true
  s1 : subIn K (.type "int") (.ref C) = some false
  s2 : subIn K (.ref C) (.type "int") = some false
theorem mulB_ok {x : Str} {K : Frag} (h : mulB x K = true) : MulOk K (He.ga K x) (He.ma K (He.ga K x) "__mul__") (He.ma K (He.ga K x) "__rmul__") := by
  obtain ⟨h1, h⟩ := He.ba h
  obtain ⟨h2, h⟩ := He.ba h
  obtain ⟨h3, h⟩ := He.ba h
  obtain ⟨h4, h⟩ := He.ba h
  obtain ⟨h5, h⟩ := He.ba h
  obtain ⟨h6, h7⟩ := He.ba h
  exact ⟨h1, He.eqO_ok h2, He.eqO_ok h3, h4, h5, of_decide_eq_true h6, of_decide_eq_true h7⟩
/-- x * k -/
def mMulR (c : Nat) (m : MF) (mo me : ME) : ME := fun F C => bnd (mo F C) fun x C1 => bnd (me F C1) fun y C2 => match y with
  | .int _ => if isC c x C2 = true then m [x, y] C2 else .stuck
  | _ => .stuck
/-- k * x -/
def mMulL (c : Nat) (m : MF) (me mo : ME) : ME := fun F C => bnd (me F C) fun x C1 => bnd (mo F C1) fun y C2 => match x with
  | .int _ => if isC c y C2 = true then m [y, x] C2 else .stuck
  | _ => .stuck
section
variable {X : Cx} {k : Cn} {W : WX} {σ : L2.St} {H : Hp} {Q : VK} {lev : Nat} {C f g : Addr} {fd : FuncData} {ps : List Str} {np : Nat} {m : MF} {e o b : Expr} {pos : Pos} {mo me : ME} {E : L2.St → XK} {sp : Sp}
theorem op_mulR (hg : MulOk X.K C f g) (F : FnG X.prog X.w X.K X.mg X.base lev f fd ps sp) (hr : RoomG lev X.A) (hb : Binds X.K fd ps []) (hx : ∀ σ, PassesAt (L2.CX X.prog X.w) X σ (E σ)) :
    OpX X (binaryOp .Mult) fun σ x y H Q => ∃ a dx fs i, x = .ref a ∧ y = .int i ∧ H a = some (.ins C dx fs) ∧ sp [x, y] H Q (E σ) := by
  intro pins s σ H x y v u Q I rx ry h
  obtain ⟨a, dx, fs, i, rfl, rfl, ha, q⟩ := h
  cases (show v = Value.ref a from rx)
  obtain ⟨t, rfl⟩ := ry
  obtain ⟨mA, O, _, _, _, _⟩ := ins_get I.hok ha
  obtain ⟨od, J, _⟩ := O.look
  refine own_int (op := .Mult) I.kIn J hg.sf hg.mul hg.rmul hg.fn hg.s1 PySem.F.fills_int_mul PySem.F.slot_int_rmul.lookup ?_
  refine wpAny_mono (run_fnG (us := [.ref a, .int i t]) (vs := [.ref a, .int i]) (dvs := []) (ds := []) F hr hb .nil (hx σ) I (.cons rfl (.cons ⟨t, rfl⟩ .nil)) q) (fun z' s' hz => ?_) fun _ _ z => z
  obtain ⟨z, H', I', rz, qz⟩ := hz
  exact SlX.cmpback rz ⟨z, H', I', rz, qz⟩
theorem op_mulL (hg : MulOk X.K C f g) (F : FnG X.prog X.w X.K X.mg X.base lev g fd ps sp) (hr : RoomG lev X.A) (hb : Binds X.K fd ps []) (hx : ∀ σ, PassesAt (L2.CX X.prog X.w) X σ (E σ)) :
    OpX X (binaryOp .Mult) fun σ x y H Q => ∃ a dx fs i, y = .ref a ∧ x = .int i ∧ H a = some (.ins C dx fs) ∧ sp [y, x] H Q (E σ) := by
  intro pins s σ H x y v u Q I rx ry h
  obtain ⟨a, dx, fs, i, rfl, rfl, ha, q⟩ := h
  cases (show u = Value.ref a from ry)
  obtain ⟨t, rfl⟩ := rx
  obtain ⟨mA, O, _, _, _, _⟩ := ins_get I.hok ha
  obtain ⟨od, J, _⟩ := O.look
  refine int_own (op := .Mult) I.kIn J hg.sf hg.mul hg.rmul hg.rfn hg.s2 PySem.F.fills_int_mul PySem.F.slot_int_mul (call_meets PySem.F.slot_int_mul (typeIs_int s i t) PySem.F.entry_int_mul (PySem.F.args_int_mul_2 _ _) (int_mul_inst i t a C dx) ⟨O.obj, rfl, rfl⟩) ?_
  refine wpAny_mono (run_fnG (us := [.ref a, .int i t]) (vs := [.ref a, .int i]) (dvs := []) (ds := []) F hr hb .nil (hx σ) I (.cons rfl (.cons ⟨t, rfl⟩ .nil)) q) (fun z' s' hz => ?_) fun _ _ z => z
  obtain ⟨z, H', I', rz, qz⟩ := hz
  exact SlX.cmpback rz ⟨z, H', I', rz, qz⟩
theorem le_mulR {c : Nat} (ar : Ar np m) (h : LE k W (mMulR c m mo me) σ H Q) : tOpX (fun σ x y H Q => ∃ a dx fs i, x = .ref a ∧ y = .int i ∧ H a = some (.ins (k.cl c) dx fs) ∧ SpD k np m [x, y] H Q (WE W σ)) (LE k W mo) (LE k W me) σ H Q := by
  obtain ⟨A, F, C, s, h⟩ := h
  refine ⟨A, F, C, s, (Aft.bnd (rel := RepD k) h).mono fun dx C1 A1 H1 v p1 st1 r1 h1 => ?_⟩
  have s1 := s.step p1 st1
  refine ⟨A1, F, C1, s1, (Aft.bnd (rel := RepD k) h1).mono fun dy C2 A2 H2 u p2 st2 r2 h2 => ?_⟩
  have s2 := s1.step p2 st2
  cases r2 with
  | int i =>
    simp only at h2
    split at h2
    · rename_i hc
      obtain ⟨a, dx', gs, rfl, ha⟩ := isC_at st2 (p2.rep _ _ r1) hc
      exact ⟨a, dx', gs, i, rfl, rfl, ha, sp_of s2.fl ar st2 (.cons (p2.rep _ _ r1) (.cons (.int i) .nil)) h2⟩
    · exact h2.elim
  | _ => exact h2.elim
theorem le_mulL {c : Nat} (ar : Ar np m) (h : LE k W (mMulL c m me mo) σ H Q) : tOpX (fun σ x y H Q => ∃ a dx fs i, y = .ref a ∧ x = .int i ∧ H a = some (.ins (k.cl c) dx fs) ∧ SpD k np m [y, x] H Q (WE W σ)) (LE k W me) (LE k W mo) σ H Q := by
  obtain ⟨A, F, C, s, h⟩ := h
  refine ⟨A, F, C, s, (Aft.bnd (rel := RepD k) h).mono fun dx C1 A1 H1 v p1 st1 r1 h1 => ?_⟩
  have s1 := s.step p1 st1
  refine ⟨A1, F, C1, s1, (Aft.bnd (rel := RepD k) h1).mono fun dy C2 A2 H2 u p2 st2 r2 h2 => ?_⟩
  have s2 := s1.step p2 st2
  cases r1 with
  | int i =>
    simp only at h2
    split at h2
    · rename_i hc
      obtain ⟨a, dx', gs, rfl, ha⟩ := isC_at st2 r2 hc
      exact ⟨a, dx', gs, i, rfl, rfl, ha, sp_of s2.fl ar st2 (.cons r2 (.cons (.int i) .nil)) h2⟩
    · exact h2.elim
  | _ => exact h2.elim
theorem de_mulR (c : Nat) (tk : Takes X W) (hK : X.K = k.K) (ha : PE X o (LE k W mo)) (hbb : PE X b (LE k W me)) (hg : MulOk k.K (k.cl c) f g) (F : FnG X.prog X.w X.K X.mg X.base lev f fd ps (SpD k np m)) (ar : Ar np m) (hr : RoomG lev X.A) (hb : Binds X.K fd ps []) : PE X (.BinOp o .Mult b pos) (LE k W (mMulR c m mo me)) :=
  (pe_opX (op_mulR (by rw [hK]; exact hg) F hr hb fun σ => passAt tk σ) ha hbb).cq fun _ _ _ h => le_mulR ar h
theorem de_mulL (c : Nat) (tk : Takes X W) (hK : X.K = k.K) (ha : PE X e (LE k W me)) (hbb : PE X o (LE k W mo)) (hg : MulOk k.K (k.cl c) f g) (F : FnG X.prog X.w X.K X.mg X.base lev g fd ps (SpD k np m)) (ar : Ar np m) (hr : RoomG lev X.A) (hb : Binds X.K fd ps []) : PE X (.BinOp e .Mult o pos) (LE k W (mMulL c m me mo)) :=
  (pe_opX (op_mulL (by rw [hK]; exact hg) F hr hb fun σ => passAt tk σ) ha hbb).cq fun _ _ _ h => le_mulL ar h
end
end CT
set_option maxHeartbeats 4000000
/-! DLS: is None; sorted(set(xs)) of ints, len(set(xs)) of tuples of ints. -/
namespace CT
open PySem L2 PySem.Spec PyProof.Rows
/-! ### is None, is not None -/
/-! ### set(xs), xs a list of ints -/
end CT
set_option maxHeartbeats 4000000
/-! E1: how the terms of the layer are worked out. -/
namespace CT
open PySem L2
/-! ### named steps; simp looks at what is done first alone -/
theorem ev_def {np ns : Nat} {body : MS} {ds : List D} {C : Store} (h : ds.length = np) : mDef np ns body ds C = finS C.length (body ⟨C.length, ds.map some ++ List.replicate (ns - np) none⟩ C) := by
  unfold mDef
  rw [if_pos h]
  rfl
section
variable (fl : Nat) (sl : List (Option D)) (C : Store) (F : Fr)
theorem ev_mod {a b : Int} (h : 0 < b) : oMod (.int a) (.int b) C = some (.int (a % b), C) := by
  show (if decide (0 < b) = true then some (D.int (a % b), C) else none) = _
  rw [if_pos (decide_eq_true h)]
theorem ev_div {a b : Int} (h : 0 < b) (h2 : b < 4611686018427387904) : oDiv (.int a) (.int b) C = some (.int (a / b), C) := by
  show (if cDiv a b = true then some (D.int (a / b), C) else none) = _
  rw [if_pos (by simp [cDiv, h, h2])]
end
/-! ### what is done next, as constants -/
section
variable {α β : Type}
/-! #### methods, properties, dicts -/
theorem prpK_ok (c : Nat) (m : MF) (fs : List D) (C : Store) {d : D} {C2 : Store} (h : m [.obj c fs] C = .ok d C2) : prpK c m (.ok (.obj c fs) C) = .ok d C2 := by
  show (if c = c then (match m [.obj c fs] C with
    | .ok d C2 => R.ok d C2
    | _ => R.stuck) else R.stuck) = _
  rw [if_pos rfl, h]
theorem getK_ok (b c : ME) (F : Fr) {x : D} {C : Store} (h : (vD x C).isSome = true) : getK b c F (.ok x C) = getK2 c F x (b F C) := by
  show (if (vD x C).isSome = true then getK2 c F x (b F C) else .stuck) = _
  rw [if_pos h]
/-! #### lists written -/
end
end CT
set_option maxHeartbeats 4000000
/-! DLT: sorted(set(xs)) of ints, len(set(xs)) of tuples of ints. -/
namespace CT
open PySem L2 PySem.Spec PyProof.Rows
theorem mDef_e {np ns : Nat} {b : MS} {ds : List D} {C : Store} {sl : List (Option D)} (h : ds.length = np) (hs : ds.map some ++ List.replicate (ns - np) none = sl) : mDef np ns b ds C = finS C.length (b ⟨C.length, sl⟩ C) := by
  rw [← hs]
  exact ev_def h
/-! ### unlike members, ascending -/
def insI (x : Int) : List Int → List Int
  | [] => [x]
  | y :: r => if x < y then x :: y :: r else if x = y then y :: r else y :: insI x r
def srtI (ns : List Int) : List Int := ns.foldr insI []
theorem insI_mem {x z : Int} : ∀ {l : List Int}, z ∈ insI x l ↔ z = x ∨ z ∈ l
  | [] => by simp [insI]
  | y :: r => by
    unfold insI
    split
    · simp
    · split
      · rename_i h; subst h; simp
      · simp only [List.mem_cons, insI_mem (l := r)]
        constructor
        · rintro (h | h | h) <;> simp [h]
        · rintro (h | h | h) <;> simp [h]
theorem insI_up {x : Int} : ∀ {l : List Int}, l.Pairwise (· < ·) → (insI x l).Pairwise (· < ·)
  | [], _ => by simp [insI]
  | y :: r, h => by
    have ⟨h1, h2⟩ := List.pairwise_cons.mp h
    unfold insI
    split
    · rename_i q
      refine List.pairwise_cons.mpr ⟨fun z hz => ?_, h⟩
      rcases List.mem_cons.mp hz with rfl | hz
      · exact q
      · exact Int.lt_trans q (h1 z hz)
    · split
      · exact h
      · refine List.pairwise_cons.mpr ⟨fun z hz => ?_, insI_up h2⟩
        rcases insI_mem.mp hz with rfl | hz
        · omega
        · exact h1 z hz
theorem srtI_mem {z : Int} : ∀ {l : List Int}, z ∈ srtI l ↔ z ∈ l
  | [] => by simp [srtI]
  | y :: r => by
    show z ∈ insI y (srtI r) ↔ _
    rw [insI_mem, srtI_mem (l := r), List.mem_cons]
theorem srtI_up : ∀ {l : List Int}, (srtI l).Pairwise (· < ·)
  | [] => List.Pairwise.nil
  | y :: r => insI_up (srtI_up (l := r))
theorem up_one : ∀ {a b : List Int}, a.Pairwise (· < ·) → b.Pairwise (· < ·) → (∀ z, z ∈ a ↔ z ∈ b) → a = b
  | [], [], _, _, _ => rfl
  | [], y :: r, _, _, h => absurd ((h y).mpr (List.mem_cons_self ..)) (by simp)
  | x :: q, [], _, _, h => absurd ((h x).mp (List.mem_cons_self ..)) (by simp)
  | x :: q, y :: r, ha, hb, h => by
    have ⟨a1, a2⟩ := List.pairwise_cons.mp ha
    have ⟨b1, b2⟩ := List.pairwise_cons.mp hb
    have e : x = y := by
      rcases List.mem_cons.mp ((h x).mp (List.mem_cons_self ..)) with e | e
      · exact e
      · rcases List.mem_cons.mp ((h y).mpr (List.mem_cons_self ..)) with e' | e'
        · exact e'.symm
        · have := a1 y e'
          have := b1 x e
          omega
    subst e
    rw [up_one a2 b2 fun z => ?_]
    constructor
    · intro hz
      rcases List.mem_cons.mp ((h z).mp (List.mem_cons_of_mem _ hz)) with e | e
      · have := a1 z hz; omega
      · exact e
    · intro hz
      rcases List.mem_cons.mp ((h z).mpr (List.mem_cons_of_mem _ hz)) with e | e
      · have := b1 z hz; omega
      · exact e
/-! ### unlike rows -/
/-! ### the calls -/
/-! ### over data -/
section
variable {X : Cx} {k : Cn} {W : WX} {A : Nat → Addr} {C : Store} {H : Hp}
theorem sqT_upd {p b : Addr} {o : HO} {vs : List V} (hb : H b = none) (h : SqT k.K H p vs) : SqT k.K (upd H b o) p vs := by
  rcases h with (h | h) | h
  · exact .inl (.inl ((upd_ne (fun e => by rw [e, hb] at h; cases h)).trans h))
  · obtain ⟨o', h⟩ := h
    exact .inl (.inr ⟨o', (upd_ne (fun e => by rw [e, hb] at h; cases h)).trans h⟩)
  · exact .inr h
variable {e : Expr} {p p' pos pos' : Pos} {ma : MA}
end
end CT
set_option maxHeartbeats 4000000
/-! DLU: repr of an empty dict. -/
namespace CT
open PySem L2 PySem.Spec PyProof.Rows
end CT
set_option maxHeartbeats 4000000
/-! DLV: l.count(x) over data. -/
namespace CT
open PySem L2 PySem.Spec PyProof.Rows
def rCntD (K : PySem.W.Frag) : V → List V → Hp → VK → Prop := fun x xs H Q => ∃ (y : V) (ds : List PyData) (d : PyData), xs = [y] ∧ Dp K H x (.list ds) ∧ Dp K H y d ∧ PyData.plainAll ds = true ∧ d.plain = true ∧ d.depth ≤ 60 ∧ Q (.int ((ds.countP fun z => PyData.eqv z d : Nat) : Int)) H
section
variable {X : Cx} {k : Cn} {W : WX} {σ : L2.St} {H : Hp} {Q : VK}
theorem mt_countD (hu : X.A.units + 65 < cLine) : MtR X "list.count" (rCntD X.K) := by
  intro pins s σ H x xs v us Q I rx rxs h
  obtain ⟨y, ds, d, rfl, hd, he, p1, p2, p3, q⟩ := h
  obtain ⟨u, rfl, ru⟩ := rxs.one
  obtain ⟨as, r1⟩ := Dp.reads I _ x v hd rx
  obtain ⟨bs, r2⟩ := Dp.reads I d y u he ru
  cases r1 with
  | list h1 h2 h3 h4 =>
    exact SeqAt.count_list_data ⟨_, h1, h2, _, h3⟩ h4 r2 p1 p2 (by omega) ⟨.int _, H, I.tok _, ⟨s.toks, rfl⟩, q⟩
def mCount (mo me : ME) : ME := fun F C => bnd (mo F C) fun o C1 => if (vL o C1).isSome = true then bnd (me F C1) fun v C2 => match toP C2 o, toP C2 v with
    | some (.list ds), some d => if (PyData.plainAll ds && (d.plain && decide (d.depth ≤ 60))) = true then .ok (.int ((ds.countP fun z => PyData.eqv z d : Nat) : Int)) C2 else .stuck
    | _, _ => .stuck
  else .stuck
theorem le_count {mo me : ME} (h : LE k W (mCount mo me) σ H Q) : tBM k.K "list" (rCntD k.K) (LE k W mo) (tCons (LE k W me) tNil) σ H Q := by
  obtain ⟨A, F, C, s, h⟩ := h
  refine ⟨A, F, C, s, (Aft.bnd (rel := RepD k) h).mono fun dO C1 A1 H1 o p1 st1 ro h1 => ?_⟩
  have s1 := s.step p1 st1
  split at h1
  · rename_i hs
    refine ⟨tyL st1 ro hs, A1, F, C1, s1, (Aft.bnd (rel := RepD k) h1).mono fun dv C2 A2 H2 v p2 st2 rv h2 => ?_⟩
    split at h2
    · rename_i ds d e1 e2
      split at h2
      · rename_i hh
        simp only [Bool.and_eq_true, decide_eq_true_eq] at hh
        exact ⟨_, ds, d, rfl, toP_dp st2 (p2.rep _ _ ro) e1, toP_dp st2 rv e2, hh.1, hh.2.1, hh.2.2, h2 A2 H2 _ Stp.refl st2 (.int _)⟩
      · exact h2.elim
    · exact h2.elim
  · exact h1.elim
variable {o e : Expr} {mo me : ME} {apos cpos : Pos}
theorem de_count (hu : X.A.units + 65 < cLine) (hK : X.K = k.K := by rfl) (ho : PE X o (LE k W mo)) (he : PE X e (LE k W me)) (hs : starEach [e] X.env = (false, eval e X.env) :: starEach [] X.env := by rfl) (hbase : attributeBase o "count" X.env (eval o X.env) = eval o X.env := by rfl)
    (hfew : ((backTo cpos (starEach [e] X.env)).all (fun x => !x.1) && (backToKw cpos (keywordEach [] X.env)).all (fun x => x.1.isSome) && decide ([e].length + ([] : List Keyword).length + (if ([] : List Keyword).isEmpty then 0 else 1) < 30)) = true := by rfl)
    (hline : (apos.endLine == cpos.line) = true := by rfl) (hplain : (backTo cpos (starEach [] X.env)).any (·.1) = false := by rfl) : PE X (.Call (.Attribute o "count" apos) [e] [] cpos) (LE k W (mCount mo me)) :=
  (pe_bm PySem.F.plainAttrs_list PySem.F.slot_list_count PySem.F.type_list_count (mt_countD hu) ho (pa_cons he pa_nil hs) hbase hfew hline hs hplain).cq fun _ _ _ h => by
    rw [hK]
    exact le_count h
end
end CT
set_option maxHeartbeats 4000000
/-! DLW: a class whose __init__ takes *numbers and a keyword. -/
namespace CT
open PySem L2 PySem.Spec PyProof.Rows
/-! ### C(e, ..), C(k = e) -/
def Vg.d : Vg → List D → D × List D
  | .pos, ds => (.non, ds)
  | .kw, ds => (ds.headD .non, [])
section
variable {k : Cn} {A : Nat → Addr} {C : Store} {H : Hp}
theorem Vg.rep (g : Vg) {vs : List V} {ds : List D} (r : RepL k A C H vs ds) : Rep k A C H (g.v vs).1 (g.d ds).1 ∧ RepL k A C H (g.v vs).2 (g.d ds).2 := by
  cases g with
  | pos => exact ⟨.non, r⟩
  | kw => cases r with
    | nil => exact ⟨.non, .nil⟩
    | cons h t => exact ⟨h, .nil⟩
end
end CT
set_option maxHeartbeats 4000000
/-! DLX: len(set(t)) of a tuple of ints; sorted(t); str(n), f-strings, join. -/
namespace CT
open PySem L2 PySem.Spec PyProof.Rows
/-! ### len(set(t)) -/
/-! ### sorted(t) -/
end CT
set_option maxHeartbeats 4000000
/-! DLY: sorted of lists or tuples; str(n), f-strings, join; str(o) by the class's own __str__. -/
namespace CT
open PySem L2 PySem.Spec PyProof.Rows
section
variable {X : Cx} {k : Cn} {W : WX} {σ : L2.St} {H : Hp} {Q : VK}
/-! ### str(n) -/
/-! ### f-strings -/
inductive FP where
  | txt (s : Str) | ex (m : ME)
def FP.t (k : Cn) (W : WX) : FP → TE
  | .txt s => tC (.str s)
  | .ex m => tFmt (LE k W m)
variable {v1 v2 : Expr} {rest : List Expr} {pos : Pos}
/-! ### join -/
variable {mo me : ME}
variable {o e : Expr} {apos : Pos}
/-! ### str(o) -/
variable {lev : Nat} {g : Addr} {fd : FuncData} {ps : List Str} {m : MF} {p : Pos}
end
end CT
set_option maxHeartbeats 4000000
/-! DLZ: binding of *numbers and a keyword that is None by itself. -/
namespace CT
open PySem L2 PySem.Spec PyProof.Rows
end CT
set_option maxHeartbeats 4000000
/-! DM1: classmethods (C.m(..), cls(k = e)); + of texts. -/
namespace CT
open PySem L2 PySem.Spec PyProof.Rows
end CT
set_option maxHeartbeats 4000000
/-! DM2: the head's Hook where attributes of classes are read. -/
namespace CT
open PySem L2 PySem.Spec PyProof.Rows
end CT
set_option maxHeartbeats 8000000
set_option pp.maxSteps 60
namespace CL
open PySem L2 PySem.Spec PyProof.Rows CT
def flA (c : Nat) : List Str := match c with
  | 0 => ["size", "grid", "ties"]
  | 2 => ["limit"]
  | 3 => ["pair"]
  | 4 => ["other", "one"]
  | _ => []
abbrev cn (K : PySem.W.Frag) : Cn := ⟨K, clA K, flA, none⟩
structure Txt (K : PySem.W.Frag) (mg : Str → Option Value) : Prop where
  n_abs : mg "abs" = none
  n_any : mg "any" = none
  n_bool : mg "bool" = none
  n_enumerate : mg "enumerate" = none
  n_int : mg "int" = none
  n_isinstance : mg "isinstance" = none
  n_len : mg "len" = none
  n_list : mg "list" = none
  n_max : mg "max" = none
  n_min : mg "min" = none
  n_range : mg "range" = none
  n_repr : mg "repr" = none
  n_set : mg "set" = none
  n_sorted : mg "sorted" = none
  n_sum : mg "sum" = none
  n_tuple : mg "tuple" = none
  c_MOST : ∃ t, mg "MOST" = some (.int 1000000000 t)
  g_is_integer : mg "is_integer" = some (.ref (a_is_integer K))
  g_is_count : mg "is_count" = some (.ref (a_is_count K))
  g_is_tie : mg "is_tie" = some (.ref (a_is_tie K))
  g_summed : mg "summed" = some (.ref (a_summed K))
  g_grid_of : mg "grid_of" = some (.ref (a_grid_of K))
  g_law_bag : mg "_law_bag" = some (.ref (a_law_bag K))
  g_law_take : mg "_law_take" = some (.ref (a_law_take K))
  g_law_items : mg "_law_items" = some (.ref (a_law_items K))
  g_law_sums : mg "_law_sums" = some (.ref (a_law_sums K))
  g_law_web_is : mg "_law_web_is" = some (.ref (a_law_web_is K))
  g_law_done : mg "_law_done" = some (.ref (a_law_done K))
  g_law_due : mg "_law_due" = some (.ref (a_law_due K))
  g_law_right : mg "_law_right" = some (.ref (a_law_right K))
  g_law : mg "law" = some (.ref (a_law K))
  g_Web : mg "Web" = some (.ref (He.ga K "Web"))
  cl_Web : Cls K (He.ga K "Web")
  no_Web_size : NoAttr K (He.ga K "Web") "size"
  no_Web_grid : NoAttr K (He.ga K "Web") "grid"
  no_Web_ties : NoAttr K (He.ga K "Web") "ties"
  mk_Web : Mk K (He.ga K "Web") (a_Web__init K)
  kt_Web__init : KT K (d_Web__init K) []
  pr_total : PropOf K (He.ga K "Web") "total" (prA K (He.ga K "Web") "total") (a_Web_total K)
  pr_degrees : PropOf K (He.ga K "Web") "degrees" (prA K (He.ga K "Web") "degrees") (a_Web_degrees K)
  dn_Web__add : DnOk K (He.ga K "Web") "__add__" (a_Web__add K)
  dn_Web__sub : DnOk K (He.ga K "Web") "__sub__" (a_Web__sub K)
  dn_Web__mul : DnOk K (He.ga K "Web") "__mul__" (a_Web__mul K)
  dn_Web__rmul : DnOk K (He.ga K "Web") "__rmul__" (a_Web__rmul K)
  g_TooMany : mg "TooMany" = some (.ref (He.ga K "TooMany"))
  xi_TooMany : XIni K (He.ga K "TooMany") (a_TooMany__init K)
  nox_TooMany_limit : NoAttr K (He.ga K "TooMany") "limit"
  g_TooFew : mg "TooFew" = some (.ref (He.ga K "TooFew"))
  xi_TooFew : XIni K (He.ga K "TooFew") (a_TooFew__init K)
  nox_TooFew_pair : NoAttr K (He.ga K "TooFew") "pair"
  g_Unequal : mg "Unequal" = some (.ref (He.ga K "Unequal"))
  xi_Unequal : XIni K (He.ga K "Unequal") (a_Unequal__init K)
  nox_Unequal_other : NoAttr K (He.ga K "Unequal") "other"
  nox_Unequal_one : NoAttr K (He.ga K "Unequal") "one"
  g_ContentError : mg "ContentError" = some (.ref (He.ga K "ContentError"))
  exm_ContentError : ExmOk (cn K) (.ref (He.ga K "ContentError")) [2, 3, 4] []
  xs : XsOk (cn K) [2, 3, 4]
  mu_Web : MulOk K (He.ga K "Web") (He.ma K (He.ga K "Web") "__mul__") (He.ma K (He.ga K "Web") "__rmul__")
  sf_Web : PySem.W.selfFirst K (He.ga K "Web") = true
  isa : IsaOk (cn K) [0]
  f_TooMany__init : ∃ fd, FunD K "__init__" "TooMany.__init__" (defArgs s_TooMany__init) (defBody s_TooMany__init) (defScope s_TooMany__init) [] [] (a_TooMany__init K) fd
  f_TooFew__init : ∃ fd, FunD K "__init__" "TooFew.__init__" (defArgs s_TooFew__init) (defBody s_TooFew__init) (defScope s_TooFew__init) [] [] (a_TooFew__init K) fd
  f_Unequal__init : ∃ fd, FunD K "__init__" "Unequal.__init__" (defArgs s_Unequal__init) (defBody s_Unequal__init) (defScope s_Unequal__init) [] [] (a_Unequal__init K) fd
  f_is_integer : ∃ fd, FunD K "is_integer" "is_integer" (defArgs s_is_integer) (defBody s_is_integer) (defScope s_is_integer) [] [] (a_is_integer K) fd
  f_is_count : ∃ fd, FunD K "is_count" "is_count" (defArgs s_is_count) (defBody s_is_count) (defScope s_is_count) [] [] (a_is_count K) fd
  f_is_tie : ∃ fd, FunD K "is_tie" "is_tie" (defArgs s_is_tie) (defBody s_is_tie) (defScope s_is_tie) [] [] (a_is_tie K) fd
  f_summed : ∃ fd, FunD K "summed" "summed" (defArgs s_summed) (defBody s_summed) (defScope s_summed) [] [] (a_summed K) fd
  f_grid_of : ∃ fd, FunD K "grid_of" "grid_of" (defArgs s_grid_of) (defBody s_grid_of) (defScope s_grid_of) [] [] (a_grid_of K) fd
  f_Web__init : ∃ fd, FunD K "__init__" "Web.__init__" (defArgs s_Web__init) (defBody s_Web__init) (defScope s_Web__init) [V.ref (d_Web__init K)] [] (a_Web__init K) fd
  f_Web_total : ∃ fd, FunD K "total" "Web.total" (defArgs s_Web_total) (defBody s_Web_total) (defScope s_Web_total) [] [] (a_Web_total K) fd
  f_Web_degrees : ∃ fd, FunD K "degrees" "Web.degrees" (defArgs s_Web_degrees) (defBody s_Web_degrees) (defScope s_Web_degrees) [] [] (a_Web_degrees K) fd
  f_Web__add : ∃ fd, FunD K "__add__" "Web.__add__" (defArgs s_Web__add) (defBody s_Web__add) (defScope s_Web__add) [] [] (a_Web__add K) fd
  f_Web__sub : ∃ fd, FunD K "__sub__" "Web.__sub__" (defArgs s_Web__sub) (defBody s_Web__sub) (defScope s_Web__sub) [] [] (a_Web__sub K) fd
  f_Web__mul : ∃ fd, FunD K "__mul__" "Web.__mul__" (defArgs s_Web__mul) (defBody s_Web__mul) (defScope s_Web__mul) [] [] (a_Web__mul K) fd
  f_Web__rmul : ∃ fd, FunD K "__rmul__" "Web.__rmul__" (defArgs s_Web__rmul) (defBody s_Web__rmul) (defScope s_Web__rmul) [] [] (a_Web__rmul K) fd
  f_law_bag : ∃ fd, FunD K "_law_bag" "_law_bag" (defArgs s_law_bag) (defBody s_law_bag) (defScope s_law_bag) [] [] (a_law_bag K) fd
  f_law_take : ∃ fd, FunD K "_law_take" "_law_take" (defArgs s_law_take) (defBody s_law_take) (defScope s_law_take) [] [] (a_law_take K) fd
  f_law_items : ∃ fd, FunD K "_law_items" "_law_items" (defArgs s_law_items) (defBody s_law_items) (defScope s_law_items) [] [] (a_law_items K) fd
  f_law_sums : ∃ fd, FunD K "_law_sums" "_law_sums" (defArgs s_law_sums) (defBody s_law_sums) (defScope s_law_sums) [] [] (a_law_sums K) fd
  f_law_web_is : ∃ fd, FunD K "_law_web_is" "_law_web_is" (defArgs s_law_web_is) (defBody s_law_web_is) (defScope s_law_web_is) [] [] (a_law_web_is K) fd
  f_law_done : ∃ fd, FunD K "_law_done" "_law_done" (defArgs s_law_done) (defBody s_law_done) (defScope s_law_done) [] [] (a_law_done K) fd
  f_law_due : ∃ fd, FunD K "_law_due" "_law_due" (defArgs s_law_due) (defBody s_law_due) (defScope s_law_due) [] [] (a_law_due K) fd
  f_law_right : ∃ fd, FunD K "_law_right" "_law_right" (defArgs s_law_right) (defBody s_law_right) (defScope s_law_right) [] [] (a_law_right K) fd
  f_law : ∃ fd, FunD K "law" "law" (defArgs s_law) (defBody s_law) (defScope s_law) [] [] (a_law K) fd
end CL
set_option maxHeartbeats 0
namespace CL
open PySem L2 PySem.Spec PyProof.Rows CT
section
open HandSHeadRun PySem.W PySem.Calls
end
end CL
set_option maxHeartbeats 4000000
/-! DM3: is True; t * n; bool(o) by the class's own __bool__; a or b of tuples, bool(t). -/
namespace CT
open PySem L2 PySem.Spec PyProof.Rows
/-! ### t * n -/
/-! ### a or b of tuples; bool(t) -/
end CT
set_option maxHeartbeats 4000000
/-! DM4: bool(o) by the class's own __bool__. -/
namespace CT
open PySem L2 PySem.Spec PyProof.Rows
/-! ### bool(o) -/
end CT
set_option maxHeartbeats 4000000
/-! DM5: zip of two tuples; min and max of a list of ints with a default. -/
namespace CT
open PySem L2 PySem.Spec PyProof.Rows RZ
end CT
set_option maxHeartbeats 4000000
/-! DM6: min and max of a list of ints with a default. -/
namespace CT
open PySem L2 PySem.Spec PyProof.Rows
end CT
set_option maxHeartbeats 4000000
/-! DM7: x + k, k + x, x - k, k - x, -x for an own x and an int k. -/
namespace CT
open PySem L2 PySem.Spec PyProof.Rows PySem.W
end CT
set_option maxHeartbeats 4000000
/-! DM8: list(range(a, b, 2)); sorted(set(xs)), len(set(xs)) of up to 4,000 ints. -/
namespace CT
open PySem L2 PySem.Spec PyProof.Rows
/-! ### sets of more ints -/
end CT
set_option maxHeartbeats 4000000
/-! DM9: xs[i], ys[j] = e, f. -/
namespace CT
open PySem L2 PySem.Spec PyProof.Rows
end CT
set_option maxHeartbeats 4000000
/-! DM10: a def that hands back an own list, as an equation. -/
namespace CT
open PySem L2
end CT
set_option maxHeartbeats 4000000
/-! DM11: {x for u in a if .. for x in b if ..} of ints, two clauses; its members in a list beside the heap. -/
namespace CT
open PySem L2 PySem.Spec PyProof.Rows
/-- the set at D holds the ints of acc -/
def SetI (w : World) (h : Heap) (D : Addr) (acc : List Int) : Prop := ∃ c, c ≤ acc.length ∧ SetR w h D (fun j => decide (j ∈ acc)) c
theorem SetI.at {w : World} {h h' : Heap} {D : Addr} {acc : List Int} (R : SetI w h D acc) (k : ∀ o, h.get? D = some o → h'.get? D = some o) : SetI w h' D acc := by
  obtain ⟨c, hc, R⟩ := R
  exact ⟨c, hc, R.at k⟩
theorem SetI.obj {w : World} {h : Heap} {D : Addr} {acc : List Int} (R : SetI w h D acc) : ∃ o, h.get? D = some o ∧ ∀ v, o.data ≠ .cell v := by
  obtain ⟨c, hc, o, es, ep, t, ho, hx, hd, _⟩ := R
  exact ⟨o, ho, fun v z => by rw [hd] at z; cases z⟩
end CT
set_option maxHeartbeats 4000000
/-! DM12: sorted({x for u in a if .. for x in b if ..}) over data. -/
namespace CT
open PySem L2 PySem.Spec PyProof.Rows
end CT
set_option maxHeartbeats 4000000
/-! DM13: min and max of one list of ints, not empty. -/
namespace CT
open PySem L2 PySem.Spec PyProof.Rows
end CT
set_option maxHeartbeats 4000000
/-! DM14: in, not in by an own __contains__, as values and as tests. -/
namespace CT
open PySem L2 PySem.Spec PyProof.Rows
end CT
set_option maxHeartbeats 4000000
/-! DM15: == and != of two lists of own objects that are equal item by item. -/
namespace CT
open PySem L2 PySem.Spec PyProof.Rows
end CT
set_option maxHeartbeats 4000000
/-! DM16: an own object as a test, by the class's own __bool__. -/
namespace CT
open PySem L2 PySem.Spec PyProof.Rows
end CT
set_option maxHeartbeats 4000000
/-! DM17: xs.reverse(). -/
namespace CT
open PySem L2 PySem.Spec PyProof.Rows
end CT
set_option maxHeartbeats 4000000
/-! DM18: while, of at most so many turns. -/
namespace CT
open PySem L2
end CT
set_option maxHeartbeats 4000000
/-! DM19: a def that hands back data with own lists and dicts inside: all become plain data. -/
namespace CT
open PySem L2 PySem.Spec PyProof.Rows
def fzF : Nat → Nat → Store → D → D
  | 0, _, _, d => d
  | q + 1, n, C, d => match d with
    | .cell i => if i < n then d else (match C[i]? with
      | some (some (.lst xs)) => .lst (xs.map (fzF q n C))
      | some (some (.dT ks vs)) => .dT ks (vs.map (fzF q n C))
      | _ => d)
    | .tup xs => .tup (xs.map (fzF q n C))
    | .lst xs => .lst (xs.map (fzF q n C))
    | _ => d
def finN (n : Nat) (d : D) (C : Store) : R D := if cb n (fzF 3 n C d) = true then .ok (fzF 3 n C d) (C.take n) else .stuck
def mDefN (np ns : Nat) (body : MS) : MF := fun ds C => if ds.length = np then (match body ⟨C.length, ds.map some ++ List.replicate (ns - np) none⟩ C with
    | .nx _ C' => finN C.length .non C'
    | .rt d C' => finN C.length d C'
    | .xc e _ C' => if cbL C.length e.fs = true then .exc e (C'.take C.length) else .stuck
    | _ => .stuck) else .stuck
theorem mDefN_ar {np ns : Nat} {body : MS} : Ar np (mDefN np ns body) := fun ds C h => by
  unfold mDefN
  rw [if_neg h]
section
variable {k : Cn}
theorem live_take {n : Nat} {A : Nat → Addr} {C : Store} {a : Addr} (l : Live A (C.take n) a) : Live A C a := by
  obtain ⟨i, c, e, z⟩ := l
  have hi : i < (C.take n).length := (List.getElem?_eq_some_iff.mp e).1
  rw [List.length_take] at hi
  rw [List.getElem?_take_of_lt (by omega)] at e
  exact ⟨i, c, e, z⟩
theorem RepL.mapF {n : Nat} {A : Nat → Addr} {C C2 : Store} {H : Hp} {f : D → D} (hf : ∀ v d, Rep k A C H v d → CT.cb n (f d) = true → Rep k A C2 H v (f d)) : ∀ {vs : List V} {ds : List D}, RepL k A C H vs ds → CT.cbL n (ds.map f) = true → RepL k A C2 H vs (ds.map f)
  | _, _, .nil, _ => .nil
  | _, _, .cons (d := d) (ds := ds) r t, h => by
    have h : (CT.cb n (f d) && CT.cbL n (ds.map f)) = true := h
    rw [Bool.and_eq_true] at h
    exact .cons (hf _ _ r h.1) (RepL.mapF hf t h.2)
theorem fzF_rep {n : Nat} {A : Nat → Addr} {C : Store} {H : Hp} (st : StOk k A C H) (hl : n ≤ C.length) : ∀ (q : Nat) (v : V) (d : D), Rep k A C H v d → cb n (fzF q n C d) = true → Rep k A (C.take n) H v (fzF q n C d)
  | 0, v, d, r, h => r.cut hl h
  | q + 1, v, d, r, h => by
    have ih := fzF_rep st hl q
    have tl : (C.take n).length = n := by rw [List.length_take]; omega
    have nl : ∀ i c, ¬ i < n → C[i]? = some (some c) → ¬ Live A (C.take n) (A i) := fun i c hi e l => by
      obtain ⟨j, c', e', z⟩ := l
      by_cases hj : j < n
      · rw [List.getElem?_take_of_lt hj] at e'
        have := st.inj j i _ _ e' e z
        omega
      · rw [List.getElem?_eq_none (by rw [tl]; omega)] at e'
        cases e'
    cases d with
    | cell i =>
      by_cases hi : i < n
      · have e : fzF (q + 1) n C (.cell i) = .cell i := by simp [fzF, hi]
        rw [e] at h ⊢
        exact r.cut hl h
      · cases r with
        | cell hi' =>
          simp only [fzF, if_neg hi] at h ⊢
          split
          · rename_i xs ec
            rw [ec] at h
            obtain ⟨vs, hv, rv⟩ := st.at_ i _ ec
            exact .lst (nl i _ hi ec) hv (rv.mapF ih (by simpa [cb] using h))
          · rename_i ks xs ec
            rw [ec] at h
            obtain ⟨kvs, hv, hk, rv⟩ := st.at_ i _ ec
            subst hk
            exact .dT (nl i _ hi ec) hv (rv.mapF ih (by simpa [cb] using h))
          · rename_i n1 n2
            exfalso
            split at h
            · rename_i ec; exact n1 _ ec
            · rename_i ec; exact n2 _ _ ec
            · simp only [cb, decide_eq_true_eq] at h
              exact hi h
    | tup xs =>
      cases r with
      | tup l hh rl => exact .tup (fun y => l (live_take y)) hh (rl.mapF ih (by simpa [cb, fzF] using h))
    | lst xs =>
      cases r with
      | lst l hh rl => exact .lst (fun y => l (live_take y)) hh (rl.mapF ih (by simpa [cb, fzF] using h))
    | _ => exact r.cut hl h
theorem spDN_body {np ns : Nat} {body : MS} {N : List Str} {vs : List V} {H : Hp} {Q : VK} {E : XK} (hN : N.length = ns) (hp : np ≤ ns) (h : SpD k np (mDefN np ns body) vs H Q E) :
    LS k (fun c d _ H' => E c d H') body { nx := fun _ H' => Q .non H', rt := Q } (L2.start N vs) H := by
  obtain ⟨hv, A, C, ds, st, rl, h⟩ := h
  have hd : ds.length = np := by rw [← rl.length]; exact hv
  unfold mDefN at h
  rw [if_pos hd] at h
  refine ⟨A, _, C, start_sr hN hv hd hp st rl, ?_⟩
  have done : ∀ (d : D) (C' : Store), Aft k C.length A C H (RepD k) (finN C.length d C') (fun _ _ _ H' v => Q v H') E → ∀ A' H' v, Stp k C.length A C H A' C' H' → StOk k A' C' H' → Rep k A' C' H' v d → Q v H' := fun d C' hf A' H' v p st' r => by
    unfold finN at hf
    split at hf
    · rename_i hc
      obtain ⟨q1, q2, q3, q4⟩ := cut_stp rfl st st' p
      exact hf A' H' v q1 q2 (fzF_rep st' q3 3 v d r hc)
    · exact hf.elim
  show AftS k _ C.length A C H (body ⟨C.length, ds.map some ++ List.replicate (ns - np) none⟩ C) _
  cases eb : body ⟨C.length, ds.map some ++ List.replicate (ns - np) none⟩ C with
  | nx sl' C' =>
    rw [eb] at h
    exact fun A' σ' H' p s' => done .non C' h A' H' .non p s'.st .non
  | rt d C' =>
    rw [eb] at h
    exact fun A' H' v p st' r => done d C' h A' H' v p st' r
  | bk sl' C' => rw [eb] at h; exact h.elim
  | ct sl' C' => rw [eb] at h; exact h.elim
  | stuck => rw [eb] at h; exact h.elim
  | xc e sl' C' =>
    rw [eb] at h
    intro A' σ' H' dd ws p s' x l r
    simp only at h
    split at h
    · rename_i hc
      obtain ⟨q1, q2, q3, q4⟩ := cut_stp rfl st s'.st p
      exact h A' H' dd ws q1 q2 x l (r.cut q3 hc)
    · exact h.elim
end
section
variable {P : Program} {w : World} {k : Cn} {mg : Str → Option Value} {base : Heap} {x qual : Str} {params : Arguments} {body : List Stmt} {scope : Scope} {dvs : List V} {kws : List (Str × V)} {f : Addr} {fd : FuncData}
theorem fn_okN {N ps : List Str} {lev : Nat} {m : MS} (F : FunD k.K x qual params body scope dvs kws f fd) (S : FnScope N ps scope) (hp : ps.length ≤ N.length)
    (hb : ∀ (cdv : Value) (A : Around) (outer : List Env) (s : Shared) (H : Hp) (E : XK), RoomG lev (A.deeper (envOfC qual scope s.heap.objs.size f cdv)) → PSs (cxOf (L2.CX P w) P w k.K mg base N qual scope f cdv A outer s H E) body (LS k (fun c d _ H' => E c d H') m)) :
    FnG P w k.K mg base (lev + 1) f fd ps (SpD k ps.length (mDefN ps.length N.length m)) := by
  obtain ⟨oc, od, dV, kV, doc, pm, an, cdv, ct, osl, rfl, lk, hcd, _, _⟩ := F.ex
  exact fn_ofG lk hcd S (fun vs H Q E h => h.1) fun A outer s H vs Q E hr h => ⟨_, hb cdv A outer s H E hr, spDN_body rfl hp h⟩
end
def finNS (n : Nat) (r : RS) : R D := match r with
  | .nx _ C' => finN n .non C'
  | .rt d C' => finN n d C'
  | .xc e _ C' => if cbL n e.fs = true then .exc e (C'.take n) else .stuck
  | _ => .stuck
theorem mDefN_e {np ns : Nat} {b : MS} {ds : List D} {C : Store} {sl : List (Option D)} (h : ds.length = np) (hs : ds.map some ++ List.replicate (ns - np) none = sl) : mDefN np ns b ds C = finNS C.length (b ⟨C.length, sl⟩ C) := by
  subst hs
  unfold mDefN
  rw [if_pos h]
  rfl
end CT
set_option maxHeartbeats 4000000
/-! DM20: == of two tuples of own objects that are equal item by item. -/
namespace CT
open PySem L2 PySem.Spec PyProof.Rows
end CT
set_option maxHeartbeats 4000000
/-! DM21: sum of a tuple of ints. -/
namespace CT
open PySem L2 PySem.Spec PyProof.Rows
end CT
set_option maxHeartbeats 4000000
/-! DM22: try with several clauses, each with a name (the same slot); each clause's suite returns. -/
namespace CT
open PySem L2 PySem.Spec PyProof.Rows
/-! ### repr in a clause's suite -/
end CT
set_option maxHeartbeats 4000000
/-! DM23: x += y, x -= y of a name that holds an instance with an own __iadd__, __isub__. -/
namespace CT
open PySem L2 PySem.Spec PyProof.Rows
end CT
set_option maxHeartbeats 4000000
/-! DM24a: what the head says for DM24. -/
namespace CT
open PySem L2 PySem.Spec PyProof.Rows
end CT
set_option maxHeartbeats 4000000
/-! DM24: x[i] = v, x[i] += v by own __getitem__, __setitem__; == and != with an instance of another own class. -/
namespace CT
open PySem L2 PySem.Spec PyProof.Rows
end CT
set_option maxHeartbeats 4000000
/-! DM25: sorted(set(list of pairs of ints from 0 to 63)); list(d) of a dict with tuple keys. -/
namespace CT
open PySem L2 PySem.Spec PyProof.Rows
def prD (p : Int × Int) : D := .tup [.int p.1, .int p.2]
def cdP (p : Int × Int) : Int := p.1 * 64 + p.2
def dcP (c : Int) : D := .tup [.int (c / 64), .int (c % 64)]
def pTups : List D → Option (List (Int × Int))
  | [] => some []
  | .tup [.int a, .int b] :: r => if 0 ≤ a ∧ a < 64 ∧ 0 ≤ b ∧ b < 64 then (pTups r).map fun l => (a, b) :: l else none
  | _ => none
def oSortST (own : Bool) : OA := fun xs C => match xs with
  | [d] => (vL d C).bind fun ys => (pTups ys).bind fun ps => if ps.length < 64 then some (mkL own ((srtI (ps.map cdP)).map dcP) C) else none
  | _ => none
theorem pTups_eq : ∀ {ds : List D} {ps : List (Int × Int)}, pTups ds = some ps → ds = ps.map prD ∧ ∀ p ∈ ps, 0 ≤ p.1 ∧ p.1 < 64 ∧ 0 ≤ p.2 ∧ p.2 < 64 := by
  intro ds
  induction ds with
  | nil => intro ps e; simp only [pTups, Option.some.injEq] at e; subst e; exact ⟨rfl, by simp⟩
  | cons d r ih =>
    intro ps e
    unfold pTups at e
    split at e
    · cases ‹_ :: _ = []›
    · rename_i a b r' e'
      cases e'
      split at e
      · rename_i hb
        obtain ⟨l, el, rfl⟩ := Option.map_eq_some_iff.mp e
        obtain ⟨h1, h2⟩ := ih el
        refine ⟨by rw [h1]; rfl, fun p hp => ?_⟩
        rcases List.mem_cons.mp hp with rfl | hp
        · exact hb
        · exact h2 p hp
      · cases e
    · cases e
theorem pTups_of : ∀ {ps : List (Int × Int)}, (∀ p ∈ ps, 0 ≤ p.1 ∧ p.1 < 64 ∧ 0 ≤ p.2 ∧ p.2 < 64) → pTups (ps.map prD) = some ps
  | [], _ => rfl
  | p :: ps, h => by
    have e := pTups_of (ps := ps) fun q hq => h q (List.mem_cons_of_mem _ hq)
    show (if _ then (pTups (ps.map prD)).map _ else none) = _
    rw [if_pos (h p (List.mem_cons_self ..)), e]
    rfl
section
variable {X : Cx} {k : Cn} {W : WX} {A : Nat → Addr} {C : Store} {H : Hp}
theorem prs_at : ∀ {vs : List V} {ps : List (Int × Int)}, RepL k A C H vs (ps.map prD) → ∃ L : List (Addr × List Int), vs = L.map (fun p => V.ref p.1) ∧ L.map (·.2) = ps.map (fun p => [p.1, p.2]) ∧ ∀ p ∈ L, Rep k A C H (.ref p.1) (.tup (p.2.map .int)) ∧ SqT k.K H p.1 (p.2.map V.int)
  | _, [], .nil => ⟨[], rfl, rfl, by simp⟩
  | _, p :: ps, .cons r t => by
    obtain ⟨L, rfl, e, h⟩ := prs_at t
    obtain ⟨a, vs, rfl, ha, rv⟩ := vT_at (ds := [.int p.1, .int p.2]) r rfl
    have := RepL.ints_inv (ns := [p.1, p.2]) rv
    subst this
    refine ⟨(a, [p.1, p.2]) :: L, rfl, by rw [List.map_cons, e]; rfl, fun q hq => ?_⟩
    rcases List.mem_cons.mp hq with rfl | hq
    · exact ⟨r, ha⟩
    · exact h q hq
theorem code2 (x y : Int) : TS.code 64 [x, y] = cdP (x, y) := code_pair x y
theorem d_sortST {own : Bool} {P : Program} {w : World} : ApD k (fun xs H Q => rSetOfT k.K P w xs H fun v H1 => rSortedT k.K P w [v] H1 Q) (oSortST own) := by
  intro fl A C H x dx d C' Q hf hl st rx e q
  cases rx with
  | nil => cases e
  | cons r t =>
    cases t with
    | cons _ _ => cases e
    | nil =>
      simp only [oSortST, Option.bind_eq_some_iff] at e
      obtain ⟨ds, ev, ps, en, e⟩ := e
      split at e
      · rename_i hn
        obtain ⟨a, vs, rfl, ha, rv⟩ := vL_at st r ev
        obtain ⟨rfl, hb⟩ := pTups_eq en
        obtain ⟨L, rfl, eL, hL⟩ := prs_at rv
        have two : ∀ q ∈ L, ∃ p ∈ ps, q.2 = [p.1, p.2] := fun q hq => by
          have : q.2 ∈ L.map (·.2) := List.mem_map.mpr ⟨q, hq, rfl⟩
          rw [eL] at this
          obtain ⟨p, hp, e⟩ := List.mem_map.mp this
          exact ⟨p, hp, e.symm⟩
        refine ⟨a, L, rfl, .inl (.inl ha), fun p hp => (hL p hp).2, ?_, fun b S hb' h1 h2 => ⟨b, S, 2, 64, rfl, upd_same, fun p h => sqT_upd hb' (hL p (h1 p h)).2, by decide, fun p hp => ?_, fun L' p pm nd few pw hp => ?_⟩⟩
        · have := congrArg List.length eL
          rw [List.length_map, List.length_map] at this
          omega
        · obtain ⟨z, hz, e2⟩ := two p (h1 p hp)
          have bz := hb z hz
          refine ⟨by rw [e2]; rfl, fun m hm => ?_⟩
          rw [e2] at hm
          simp only [List.mem_cons, List.not_mem_nil, or_false] at hm
          rcases hm with rfl | rfl
          · exact ⟨bz.1, bz.2.1⟩
          · exact bz.2.2
        · have mL : ∀ q ∈ L', q ∈ L := fun q hq => h1 q (pm.mem_iff.mp hq)
          have cd : ∀ q ∈ L', ∃ z ∈ ps, q.2 = [z.1, z.2] ∧ TS.code 64 q.2 = cdP z := fun q hq => by
            obtain ⟨z, hz, e2⟩ := two q (mL q hq)
            exact ⟨z, hz, e2, by rw [e2, code2]⟩
          have up : (L'.map fun q => TS.code 64 q.2).Pairwise (· < ·) := by
            rw [List.pairwise_map]
            have nd' : L'.Pairwise fun q r => q.2 ≠ r.2 := List.pairwise_map.mp nd
            have both := pw.and nd'
            refine List.Pairwise.imp_of_mem (fun {q r} hq hr hqr => ?_) both
            obtain ⟨z, hz, e1, c1⟩ := cd q hq
            obtain ⟨y, hy, e2, c2⟩ := cd r hr
            have := hqr.1
            rw [c1, c2] at this ⊢
            have bz := hb z hz
            have by' := hb y hy
            rcases Int.lt_or_eq_of_le this with h | h
            · exact h
            · refine absurd ?_ hqr.2
              rw [e1, e2]
              unfold cdP at h
              have a1 : z.1 = y.1 := by omega
              have a2 : z.2 = y.2 := by omega
              rw [a1, a2]
          have ec : (L'.map fun q => TS.code 64 q.2) = srtI (ps.map cdP) := up_one up srtI_up fun z => by
            rw [srtI_mem, List.mem_map, List.mem_map]
            constructor
            · rintro ⟨q, hq, rfl⟩
              obtain ⟨z, hz, _, c⟩ := cd q hq
              exact ⟨z, hz, c.symm⟩
            · rintro ⟨y, hy, rfl⟩
              have : [y.1, y.2] ∈ L.map (·.2) := by
                rw [eL]
                exact List.mem_map.mpr ⟨y, hy, rfl⟩
              obtain ⟨q, hq, e2⟩ := List.mem_map.mp this
              obtain ⟨s, hs, e3⟩ := List.mem_map.mp (h2 q hq)
              refine ⟨s, pm.mem_iff.mpr hs, ?_⟩
              show TS.code 64 s.2 = _
              rw [e3, e2, code2]
          have ed : (L'.map fun q => D.tup (q.2.map .int)) = (srtI (ps.map cdP)).map dcP := by
            rw [← ec, List.map_map]
            refine List.map_congr_left fun q hq => ?_
            obtain ⟨z, hz, e2, c⟩ := cd q hq
            have bz := hb z hz
            show _ = dcP (TS.code 64 q.2)
            rw [c, e2]
            unfold dcP cdP
            rw [show (z.1 * 64 + z.2) / 64 = z.1 by omega, show (z.1 * 64 + z.2) % 64 = z.2 by omega]
            rfl
          have st1 : StOk k A C (upd H b (SetTO P w b S)) := st.new hb'
          have rr : RepL k A C (upd H b (SetTO P w b S)) (L'.map fun q => V.ref q.1) (L'.map fun q => D.tup (q.2.map .int)) := repL_of2 fun q hq => ((hL q (mL q hq)).1).kp (kp_new hb')
          rw [ed] at rr
          obtain ⟨A2, w1, w2, w3⟩ := fresh_L (own := own) hf st1 rr hp
          have e1 := Option.some.inj e
          rw [e1] at w1 w2 w3
          exact q A2 _ _ ((kp_new hb').stp0.trans w1) w2 w3
      · cases e
variable {e : Expr} {p p' pos pos' : Pos} {ma : MA}
theorem de_sortST (own : Bool) (hK : X.K = k.K) (hc : X.calm = true) (hu : X.A.units + 64 < cLine) (hg : Gl X "sorted") (hm : X.mg "sorted" = none) (hg' : Gl X "set") (hm' : X.mg "set" = none) (ha : PA X [e] (LA k W ma)) (hs : starEach [e] X.env = (false, eval e X.env) :: starEach [] X.env := by rfl)
    (hs' : starEach [.Call (.Name "set" p') [e] [] pos'] X.env = (false, eval (.Call (.Name "set" p') [e] [] pos') X.env) :: starEach [] X.env := by rfl) (hpl : (backTo pos' (starEach [] X.env)).any (·.1) = false := by rfl) (hpl' : (backTo pos (starEach [] X.env)).any (·.1) = false := by rfl) :
    PE X (.Call (.Name "sorted" p) [.Call (.Name "set" p') [e] [] pos'] [] pos) (LE k W (mAp (oSortST own) ma)) :=
  (pe_callB (cr_sortedT hc) hg hm (by decide +kernel) (pa_cons (pe_callTy (cr_setOfT hc hu) hg' hm' (by decide +kernel) ha (by decide) (by decide) hs hpl) pa_nil hs') (by decide) (by decide) hs' hpl').cq fun _ _ _ h => le_ap (r := fun xs H Q => rSetOfT X.K X.prog X.w xs H fun v H1 => rSortedT X.K X.prog X.w [v] H1 Q) (by rw [hK]; exact d_sortST) h
end
/-! ### list(d) -/
section
variable {X : Cx} {k : Cn} {W : WX} {A : Nat → Addr} {C : Store} {H : Hp}
def oListOfD (own : Bool) : OA := fun xs C => match xs with
  | [d] => (vD d C).map fun y => mkL own (y.1.map fun q => .tup (q.map kyD)) C
  | _ => none
theorem d_listOfD (own : Bool) : ApD k (fun xs H Q => ∃ d kvs, xs = [V.ref d] ∧ Rd H d (.dT kvs) ∧ ∀ p bs, H p = none → IsKeys H kvs bs → Q (.ref p) (upd H p (.lst (bs.map V.ref)))) (oListOfD own) := by
  intro fl A C H x dx d C' Q hf hl st rx e q
  cases rx with
  | nil => cases e
  | cons r t =>
    cases t with
    | cons _ _ => cases e
    | nil =>
      rename_i v0 d0
      simp only [oListOfD, Option.map_eq_some_iff] at e
      obtain ⟨⟨ks, ds⟩, ev, e⟩ := e
      obtain ⟨a, kvs, rfl, ha, hk, rv⟩ := vD_at st r ev
      refine ⟨a, kvs, rfl, .inl ha, fun p bs hp pr => ?_⟩
      obtain ⟨z1, z2⟩ := zip_fst pr
      have rr : RepL k A C H ((kvs.zip bs).map fun x => V.ref x.2) ((kvs.zip bs).map fun x => D.tup (x.1.1.map kyD)) := repL_of2 fun y hy => by
        have hy' := paired_zip pr y hy
        exact .tup (tup_nl st hy') hy' (ky_rep _)
      have e1 : (kvs.zip bs).map (fun x => V.ref x.2) = bs.map V.ref := by
        rw [← z2, List.map_map, z2]
        rfl
      have e2 : (kvs.zip bs).map (fun x => D.tup (x.1.1.map kyD)) = ks.map fun q => .tup (q.map kyD) := by
        rw [← hk, ← z1, List.map_map, List.map_map, z1]
        rfl
      rw [e1, e2] at rr
      obtain ⟨A2, w1, w2, w3⟩ := fresh_L (own := own) hf st rr hp
      have e3 := Option.some.inj (congrArg some e)
      rw [e3] at w1 w2 w3
      exact q A2 _ _ w1 w2 w3
end
end CT
set_option maxHeartbeats 8000000
namespace CL
open PySem L2 PySem.Spec PyProof.Rows CT
noncomputable section
theorem txt {K : PySem.W.Frag} {h : Heap} {mg : Str → Option Value} (X : K.In h) (G : h.Ns mainGlobals mg) (c : SaysX fs fn K) : Txt K mg where
  n_abs := He.free_ok X G (c.fact 0 (f := (He.Fa.free "abs").ok) rfl)
  n_any := He.free_ok X G (c.fact 1 (f := (He.Fa.free "any").ok) rfl)
  n_bool := He.free_ok X G (c.fact 2 (f := (He.Fa.free "bool").ok) rfl)
  n_enumerate := He.free_ok X G (c.fact 3 (f := (He.Fa.free "enumerate").ok) rfl)
  n_int := He.free_ok X G (c.fact 4 (f := (He.Fa.free "int").ok) rfl)
  n_isinstance := He.free_ok X G (c.fact 5 (f := (He.Fa.free "isinstance").ok) rfl)
  n_len := He.free_ok X G (c.fact 6 (f := (He.Fa.free "len").ok) rfl)
  n_list := He.free_ok X G (c.fact 7 (f := (He.Fa.free "list").ok) rfl)
  n_max := He.free_ok X G (c.fact 8 (f := (He.Fa.free "max").ok) rfl)
  n_min := He.free_ok X G (c.fact 9 (f := (He.Fa.free "min").ok) rfl)
  n_range := He.free_ok X G (c.fact 10 (f := (He.Fa.free "range").ok) rfl)
  n_repr := He.free_ok X G (c.fact 11 (f := (He.Fa.free "repr").ok) rfl)
  n_set := He.free_ok X G (c.fact 12 (f := (He.Fa.free "set").ok) rfl)
  n_sorted := He.free_ok X G (c.fact 13 (f := (He.Fa.free "sorted").ok) rfl)
  n_sum := He.free_ok X G (c.fact 14 (f := (He.Fa.free "sum").ok) rfl)
  n_tuple := He.free_ok X G (c.fact 15 (f := (He.Fa.free "tuple").ok) rfl)
  c_MOST := He.int_ok X G (c.fact 16 (f := (He.Fa.int "MOST" 1000000000).ok) rfl)
  g_is_integer := He.glo_ok X G (c.fact 17 (f := (He.Fa.glo "is_integer").ok) rfl)
  g_is_count := He.glo_ok X G (c.fact 18 (f := (He.Fa.glo "is_count").ok) rfl)
  g_is_tie := He.glo_ok X G (c.fact 19 (f := (He.Fa.glo "is_tie").ok) rfl)
  g_summed := He.glo_ok X G (c.fact 20 (f := (He.Fa.glo "summed").ok) rfl)
  g_grid_of := He.glo_ok X G (c.fact 21 (f := (He.Fa.glo "grid_of").ok) rfl)
  g_law_bag := He.glo_ok X G (c.fact 22 (f := (He.Fa.glo "_law_bag").ok) rfl)
  g_law_take := He.glo_ok X G (c.fact 23 (f := (He.Fa.glo "_law_take").ok) rfl)
  g_law_items := He.glo_ok X G (c.fact 24 (f := (He.Fa.glo "_law_items").ok) rfl)
  g_law_sums := He.glo_ok X G (c.fact 25 (f := (He.Fa.glo "_law_sums").ok) rfl)
  g_law_web_is := He.glo_ok X G (c.fact 26 (f := (He.Fa.glo "_law_web_is").ok) rfl)
  g_law_done := He.glo_ok X G (c.fact 27 (f := (He.Fa.glo "_law_done").ok) rfl)
  g_law_due := He.glo_ok X G (c.fact 28 (f := (He.Fa.glo "_law_due").ok) rfl)
  g_law_right := He.glo_ok X G (c.fact 29 (f := (He.Fa.glo "_law_right").ok) rfl)
  g_law := He.glo_ok X G (c.fact 30 (f := (He.Fa.glo "law").ok) rfl)
  g_Web := He.glo_ok X G (c.fact 31 (f := (He.Fa.glo "Web").ok) rfl)
  cl_Web := He.cls_ok (c.fact 32 (f := (He.Fa.cls "Web").ok) rfl)
  no_Web_size := He.noat_ok (c.fact 33 (f := (He.Fa.noat "Web" "size").ok) rfl)
  no_Web_grid := He.noat_ok (c.fact 34 (f := (He.Fa.noat "Web" "grid").ok) rfl)
  no_Web_ties := He.noat_ok (c.fact 35 (f := (He.Fa.noat "Web" "ties").ok) rfl)
  mk_Web := He.mkr_ok (c.fact 36 (f := (He.Fa.mkr "Web").ok) rfl)
  kt_Web__init := ktB_ok (c.fact 37 (f := ktB d_Web__init) rfl)
  pr_total := prB_ok (c.fact 38 (f := prB "Web" "total") rfl)
  pr_degrees := prB_ok (c.fact 39 (f := prB "Web" "degrees") rfl)
  dn_Web__add := dnB_ok (c.fact 40 (f := dnB "Web" "__add__") rfl)
  dn_Web__sub := dnB_ok (c.fact 41 (f := dnB "Web" "__sub__") rfl)
  dn_Web__mul := dnB_ok (c.fact 42 (f := dnB "Web" "__mul__") rfl)
  dn_Web__rmul := dnB_ok (c.fact 43 (f := dnB "Web" "__rmul__") rfl)
  g_TooMany := He.glo_ok X G (c.fact 44 (f := (He.Fa.glo "TooMany").ok) rfl)
  xi_TooMany := xiB_ok (c.fact 45 (f := xiB "TooMany") rfl)
  nox_TooMany_limit := He.noat_ok (c.fact 46 (f := (He.Fa.noat "TooMany" "limit").ok) rfl)
  g_TooFew := He.glo_ok X G (c.fact 47 (f := (He.Fa.glo "TooFew").ok) rfl)
  xi_TooFew := xiB_ok (c.fact 48 (f := xiB "TooFew") rfl)
  nox_TooFew_pair := He.noat_ok (c.fact 49 (f := (He.Fa.noat "TooFew" "pair").ok) rfl)
  g_Unequal := He.glo_ok X G (c.fact 50 (f := (He.Fa.glo "Unequal").ok) rfl)
  xi_Unequal := xiB_ok (c.fact 51 (f := xiB "Unequal") rfl)
  nox_Unequal_other := He.noat_ok (c.fact 52 (f := (He.Fa.noat "Unequal" "other").ok) rfl)
  nox_Unequal_one := He.noat_ok (c.fact 53 (f := (He.Fa.noat "Unequal" "one").ok) rfl)
  g_ContentError := He.glo_ok X G (c.fact 54 (f := (He.Fa.glo "ContentError").ok) rfl)
  exm_ContentError := exmB_ok rfl rfl (c.fact 55 (f := exmB clA "ContentError" [2, 3, 4] []) rfl)
  xs := xsB_ok rfl rfl (c.fact 56 (f := xsB clA [2, 3, 4]) rfl)
  mu_Web := mulB_ok (c.fact 57 (f := mulB "Web") rfl)
  sf_Web := sfB_ok (c.fact 58 (f := sfB "Web") rfl)
  isa := isaB_ok rfl rfl (c.fact 59 (f := isaB clA [0]) rfl)
  f_TooMany__init := c.def_ 0 (d := dx_TooMany__init) rfl
  f_TooFew__init := c.def_ 1 (d := dx_TooFew__init) rfl
  f_Unequal__init := c.def_ 2 (d := dx_Unequal__init) rfl
  f_is_integer := c.def_ 3 (d := dx_is_integer) rfl
  f_is_count := c.def_ 4 (d := dx_is_count) rfl
  f_is_tie := c.def_ 5 (d := dx_is_tie) rfl
  f_summed := c.def_ 6 (d := dx_summed) rfl
  f_grid_of := c.def_ 7 (d := dx_grid_of) rfl
  f_Web__init := c.def_ 8 (d := dx_Web__init) rfl
  f_Web_total := c.def_ 9 (d := dx_Web_total) rfl
  f_Web_degrees := c.def_ 10 (d := dx_Web_degrees) rfl
  f_Web__add := c.def_ 11 (d := dx_Web__add) rfl
  f_Web__sub := c.def_ 12 (d := dx_Web__sub) rfl
  f_Web__mul := c.def_ 13 (d := dx_Web__mul) rfl
  f_Web__rmul := c.def_ 14 (d := dx_Web__rmul) rfl
  f_law_bag := c.def_ 15 (d := dx_law_bag) rfl
  f_law_take := c.def_ 16 (d := dx_law_take) rfl
  f_law_items := c.def_ 17 (d := dx_law_items) rfl
  f_law_sums := c.def_ 18 (d := dx_law_sums) rfl
  f_law_web_is := c.def_ 19 (d := dx_law_web_is) rfl
  f_law_done := c.def_ 20 (d := dx_law_done) rfl
  f_law_due := c.def_ 21 (d := dx_law_due) rfl
  f_law_right := c.def_ 22 (d := dx_law_right) rfl
  f_law := c.def_ 23 (d := dx_law) rfl
theorem nd_Web {K : PySem.W.Frag} : ((cn K).fn 0).Nodup := (by decide : (flA 0).Nodup)
theorem nd_TooMany {K : PySem.W.Frag} : ((cn K).fn 2).Nodup := (by decide : (flA 2).Nodup)
theorem nd_TooFew {K : PySem.W.Frag} : ((cn K).fn 3).Nodup := (by decide : (flA 3).Nodup)
theorem nd_Unequal {K : PySem.W.Frag} : ((cn K).fn 4).Nodup := (by decide : (flA 4).Nodup)
section
variable {P : Program} {w : World} {K : PySem.W.Frag} {mg : Str → Option Value} {base : Heap}
theorem sc_TooMany__init : FnScope ["self", "limit"] ["self", "limit"] (defScope s_TooMany__init) := ⟨rfl, rfl, rfl, by decide +kernel, rfl, by decide +kernel, by decide +kernel⟩
theorem okx_TooMany (T : Txt K mg) : ∃ fd, FnOk P w K mg base CX0 1 (a_TooMany__init K) fd ["self", "limit"] (spX1 (He.ga K "TooMany") "limit") ∧ Binds K fd ["self", "limit"] [] := by
  obtain ⟨fd, F⟩ := T.f_TooMany__init
  exact ⟨fd, x1_ok F sc_TooMany__init rfl rfl T.xi_TooMany.ox T.nox_TooMany_limit (fun cdv A outer s H E => pss_one (ps_ost (pv 0) (pv 1))), F.bindsN fun _ _ _ _ _ _ us hl => match us, hl with | [_, _], _ => rfl⟩
theorem sc_TooFew__init : FnScope ["self", "pair"] ["self", "pair"] (defScope s_TooFew__init) := ⟨rfl, rfl, rfl, by decide +kernel, rfl, by decide +kernel, by decide +kernel⟩
theorem okx_TooFew (T : Txt K mg) : ∃ fd, FnOk P w K mg base CX0 1 (a_TooFew__init K) fd ["self", "pair"] (spX1 (He.ga K "TooFew") "pair") ∧ Binds K fd ["self", "pair"] [] := by
  obtain ⟨fd, F⟩ := T.f_TooFew__init
  exact ⟨fd, x1_ok F sc_TooFew__init rfl rfl T.xi_TooFew.ox T.nox_TooFew_pair (fun cdv A outer s H E => pss_one (ps_ost (pv 0) (pv 1))), F.bindsN fun _ _ _ _ _ _ us hl => match us, hl with | [_, _], _ => rfl⟩
theorem sc_Unequal__init : FnScope ["self", "one", "other"] ["self", "one", "other"] (defScope s_Unequal__init) := ⟨rfl, rfl, rfl, by decide +kernel, rfl, by decide +kernel, by decide +kernel⟩
theorem okx_Unequal (T : Txt K mg) : ∃ fd, FnOk P w K mg base CX0 1 (a_Unequal__init K) fd ["self", "one", "other"] (spX2 (He.ga K "Unequal") "one" "other") ∧ Binds K fd ["self", "one", "other"] [] := by
  obtain ⟨fd, F⟩ := T.f_Unequal__init
  exact ⟨fd, x2_ok F sc_Unequal__init rfl rfl T.xi_Unequal.ox T.nox_Unequal_one T.nox_Unequal_other (fun cdv A outer s H E => pss_cons (ps_ost (pv 0) (pv 1)) (pss_one (ps_ost (pv 0) (pv 2)))), F.bindsN fun _ _ _ _ _ _ us hl => match us, hl with | [_, _, _], _ => rfl⟩
theorem sc_is_integer : FnScope ["thing"] ["thing"] (defScope s_is_integer) := ⟨rfl, rfl, rfl, by decide +kernel, rfl, by decide +kernel, by decide +kernel⟩
def b_is_integer : MS := (sRet (mAnd (mIsi [0] (.ty .int) (mVar 0)) (mNot (mIsi [0] (.ty .bool) (mVar 0)))))
def m_is_integer : MF := mDef 1 1 b_is_integer
theorem ar_is_integer : Ar 1 m_is_integer := mDef_ar
theorem ok_is_integer (T : Txt K mg) : ∃ fd, FnG P w K mg base 1 (a_is_integer K) fd ["thing"] (SpD (cn K) 1 m_is_integer) ∧ Binds K fd ["thing"] [] ∧ PySem.W.keepIn K (.ref (a_is_integer K)) = true := by
  obtain ⟨fd, F⟩ := T.f_is_integer
  refine ⟨fd, fn_ok (k := cn K) F sc_is_integer (by decide) fun cdv A outer s H E hr => ?_, F.bindsN fun _ _ _ _ _ _ us hl => match us, hl with | [_], _ => rfl, F.kp⟩
  have tk : Takes (cxOf (L2.CX P w) P w K mg base ["thing"] "is_integer" (defScope s_is_integer) (a_is_integer K) cdv A outer s H E) (fun c d _ H => E c d H) := takes_of rfl rfl rfl rfl
  exact (dss_one (ds_ret (de_and (de_isi (by rfl) T.n_isinstance T.isa rfl rfl (dv 0) (pe_bltn (v := .ty "int") (by rfl) T.n_int (by decide +kernel) rfl)) (de_one (de_not (de_isi (by rfl) T.n_isinstance T.isa rfl rfl (dv 0) (pe_bltn (v := .ty "bool") (by rfl) T.n_bool (by decide +kernel) rfl)))))))
theorem sc_is_count : FnScope ["thing", "least", "greatest"] ["thing", "least", "greatest"] (defScope s_is_count) := ⟨rfl, rfl, rfl, by decide +kernel, rfl, by decide +kernel, by decide +kernel⟩
def b_is_count : MS := (sRet (mAnd (mCall m_is_integer [] (mCons (mVar 0) mNil)) (mChain oLe oLe (mVar 1) (mVar 0) (mVar 2))))
def m_is_count : MF := mDef 3 3 b_is_count
theorem ar_is_count : Ar 3 m_is_count := mDef_ar
theorem ok_is_count (T : Txt K mg) : ∃ fd, FnG P w K mg base 2 (a_is_count K) fd ["thing", "least", "greatest"] (SpD (cn K) 3 m_is_count) ∧ Binds K fd ["thing", "least", "greatest"] [] ∧ PySem.W.keepIn K (.ref (a_is_count K)) = true := by
  obtain ⟨fd_is_integer, F_is_integer, B_is_integer, kp_is_integer⟩ := ok_is_integer (P := P) (w := w) (base := base) T
  obtain ⟨fd, F⟩ := T.f_is_count
  refine ⟨fd, fn_ok (k := cn K) F sc_is_count (by decide) fun cdv A outer s H E hr => ?_, F.bindsN fun _ _ _ _ _ _ us hl => match us, hl with | [_, _, _], _ => rfl, F.kp⟩
  have tk : Takes (cxOf (L2.CX P w) P w K mg base ["thing", "least", "greatest"] "is_count" (defScope s_is_count) (a_is_count K) cdv A outer s H E) (fun c d _ H => E c d H) := takes_of rfl rfl rfl rfl
  exact (dss_one (ds_ret (de_and (de_call tk F_is_integer ar_is_integer (hr.mono (by decide)) (by rfl) T.g_is_integer kp_is_integer B_is_integer .nil (fun _ _ _ => .nil) (da_cons (dv 0) da_nil)) (de_one (de_chain op_le d_le op_le d_le (dv 1) (dv 0) (dv 2))))))
theorem sc_is_tie : FnScope ["size", "thing", "u", "v", "number"] ["size", "thing"] (defScope s_is_tie) := ⟨rfl, rfl, rfl, by decide +kernel, rfl, by decide +kernel, by decide +kernel⟩
def b_is_tie_0 : MS := (sIf (tOrM (tNotM (mTst (mIsi [0] (.ty .tuple) (mVar 1)))) (mTst (mOp (oEqA true) (mAp oLen (mCons (mVar 1) mNil)) (mC (.int 3))))) (sRet (mC (.bl false))) sNext)
def b_is_tie_1 : MS := (sAsg (mVar 1) (Tgt.tp [2, 3, 4]).M)
def b_is_tie_2 : MS := (sIf (tOrM (tNotM (mTst (mCall m_is_count [] (mCons (mVar 2) (mCons (mC (.int 0)) (mCons (mOp oSub (mVar 0) (mC (.int 1))) mNil)))))) (tOrM (tNotM (mTst (mCall m_is_count [] (mCons (mVar 3) (mCons (mC (.int 0)) (mCons (mOp oSub (mVar 0) (mC (.int 1))) mNil)))))) (mTst (mOp (oEqA false) (mVar 2) (mVar 3))))) (sRet (mC (.bl false))) sNext)
def b_is_tie_3 : MS := (sRet (mCall m_is_count [] (mCons (mVar 4) (mCons (mC (.int 0)) (mCons (mC (.int 1000000000)) mNil)))))
def b_is_tie : MS := (sSeq b_is_tie_0 (sSeq b_is_tie_1 (sSeq b_is_tie_2 b_is_tie_3)))
def m_is_tie : MF := mDef 2 5 b_is_tie
theorem e_is_tie (x0 x1 : D) (C : Store) : m_is_tie [x0, x1] C = finS C.length (b_is_tie ⟨C.length, [some x0, some x1, none, none, none]⟩ C) := mDef_e rfl rfl
theorem ar_is_tie : Ar 2 m_is_tie := mDef_ar
theorem ok_is_tie (T : Txt K mg) : ∃ fd, FnG P w K mg base 3 (a_is_tie K) fd ["size", "thing"] (SpD (cn K) 2 m_is_tie) ∧ Binds K fd ["size", "thing"] [] ∧ PySem.W.keepIn K (.ref (a_is_tie K)) = true := by
  obtain ⟨fd_is_count, F_is_count, B_is_count, kp_is_count⟩ := ok_is_count (P := P) (w := w) (base := base) T
  obtain ⟨t_MOST, h_MOST⟩ := T.c_MOST
  obtain ⟨fd, F⟩ := T.f_is_tie
  refine ⟨fd, fn_ok (k := cn K) F sc_is_tie (by decide) fun cdv A outer s H E hr => ?_, F.bindsN fun _ _ _ _ _ _ us hl => match us, hl with | [_, _], _ => rfl, F.kp⟩
  have tk : Takes (cxOf (L2.CX P w) P w K mg base ["size", "thing", "u", "v", "number"] "is_tie" (defScope s_is_tie) (a_is_tie K) cdv A outer s H E) (fun c d _ H => E c d H) := takes_of rfl rfl rfl rfl
  exact (dss_cons (ds_if (PW.pt (dw_or (dt_not (dt_val (de_isi (by rfl) T.n_isinstance T.isa rfl rfl (dv 1) (pe_bltn (v := .ty "tuple") (by rfl) T.n_tuple (by decide +kernel) rfl)))) (dw_or1 (dt_cmp (op_ne.or (op_neD hr.room.units)) d_neA (de_callB call_len_seq d_len (by rfl) T.n_len (by decide +kernel) (da_cons (dv 1) da_nil)) de_int (nomark _))))) (dss_one (ds_ret de_bl)) dss_nil)
  (dss_cons (ds_asgT (dv 1) (tg_tp [2, 3, 4] rfl rfl (pgs_cons (pg_name (i := 2) sc_is_tie.nd rfl (Or.inl rfl)) (pgs_cons (pg_name (i := 3) sc_is_tie.nd rfl (Or.inl rfl)) (pgs_cons (pg_name (i := 4) sc_is_tie.nd rfl (Or.inl rfl)) pgs_nil)))))
  (dss_cons (ds_if (PW.pt (dw_or (dt_not (dt_val (de_call tk F_is_count ar_is_count (hr.mono (by decide)) (by rfl) T.g_is_count kp_is_count B_is_count .nil (fun _ _ _ => .nil) (da_cons (dv 2) (da_cons de_int (da_cons (de_op op_sub d_sub (dv 0) de_int) da_nil)))))) (dw_or (dt_not (dt_val (de_call tk F_is_count ar_is_count (hr.mono (by decide)) (by rfl) T.g_is_count kp_is_count B_is_count .nil (fun _ _ _ => .nil) (da_cons (dv 3) (da_cons de_int (da_cons (de_op op_sub d_sub (dv 0) de_int) da_nil)))))) (dw_or1 (dt_cmp (op_eq.or (op_eqD hr.room.units)) d_eqA (dv 2) (dv 3) (nomark _)))))) (dss_one (ds_ret de_bl)) dss_nil)
  (dss_one (ds_ret (de_call tk F_is_count ar_is_count (hr.mono (by decide)) (by rfl) T.g_is_count kp_is_count B_is_count .nil (fun _ _ _ => .nil) (da_cons (dv 4) (da_cons de_int (da_cons (de_glob (fun _ _ _ => .int _) (by rfl) h_MOST ⟨_, rfl⟩) da_nil)))))))))
theorem sc_summed : FnScope ["ties", "found", "u", "v", "number", "pair"] ["ties"] (defScope s_summed) := ⟨rfl, rfl, rfl, by decide +kernel, rfl, by decide +kernel, by decide +kernel⟩
def b_summed_0 : MS := (sAsg (mDNew true) (gN 1))
def b_summed_1b_0 : MS := (sAsg (mAp oTup (mCons (mAp oMin2 (mCons (mVar 2) (mCons (mVar 3) mNil))) (mCons (mAp oMax2 (mCons (mVar 2) (mCons (mVar 3) mNil))) mNil))) (gN 5))
def b_summed_1b_1 : MS := (sPut (mOp oAdd (mDGet (mVar 1) (mVar 5) (mC (.int 0))) (mVar 4)) (mVar 1) (mVar 5))
def b_summed_1 : MS := (sFor (mSeq (mVar 0)) (Tgt.tp [2, 3, 4]).M (sSeq b_summed_1b_0 b_summed_1b_1))
def b_summed_2 : MS := (sRet (mVar 1))
def b_summed : MS := (sSeq b_summed_0 (sSeq b_summed_1 b_summed_2))
def m_summed : MF := mDef 1 6 b_summed
theorem e_summed (x0 : D) (C : Store) : m_summed [x0] C = finS C.length (b_summed ⟨C.length, [some x0, none, none, none, none, none]⟩ C) := mDef_e rfl rfl
theorem ar_summed : Ar 1 m_summed := mDef_ar
theorem ok_summed (T : Txt K mg) : ∃ fd, FnG P w K mg base 1 (a_summed K) fd ["ties"] (SpD (cn K) 1 m_summed) ∧ Binds K fd ["ties"] [] ∧ PySem.W.keepIn K (.ref (a_summed K)) = true := by
  obtain ⟨fd, F⟩ := T.f_summed
  refine ⟨fd, fn_ok (k := cn K) F sc_summed (by decide) fun cdv A outer s H E hr => ?_, F.bindsN fun _ _ _ _ _ _ us hl => match us, hl with | [_], _ => rfl, F.kp⟩
  have tk : Takes (cxOf (L2.CX P w) P w K mg base ["ties", "found", "u", "v", "number", "pair"] "summed" (defScope s_summed) (a_summed K) cdv A outer s H E) (fun c d _ H => E c d H) := takes_of rfl rfl rfl rfl
  exact (dss_cons (ds_set (i := 1) sc_summed.nd rfl (Or.inl rfl) (de_dnew true))
  (dss_cons (ds_for (passes_of rfl) rfl (di_seq rfl (dv 0)) (tg_tp [2, 3, 4] rfl rfl (pgs_cons (pg_name (i := 2) sc_summed.nd rfl (Or.inl rfl)) (pgs_cons (pg_name (i := 3) sc_summed.nd rfl (Or.inl rfl)) (pgs_cons (pg_name (i := 4) sc_summed.nd rfl (Or.inl rfl)) pgs_nil)))) (dss_cons (ds_set (i := 5) sc_summed.nd rfl (Or.inl rfl) (de_tup (da_cons (de_callB (call_min2 rfl) d_min2 (by rfl) T.n_min (by decide +kernel) (da_cons (dv 2) (da_cons (dv 3) da_nil))) (da_cons (de_callB (call_max2 rfl) d_max2 (by rfl) T.n_max (by decide +kernel) (da_cons (dv 2) (da_cons (dv 3) da_nil))) da_nil))))
  (dss_one (ds_put (hu_of hr.room) (de_op op_add d_add (de_dget (hu_of hr.room) (dv 1) (dv 5) de_int) (dv 4)) (dv 1) (dv 5)))))
  (dss_one (ds_ret (dv 1)))))
theorem sc_grid_of : FnScope ["size", "ties", "found", "u", "v"] ["size", "ties"] (defScope s_grid_of) := ⟨rfl, rfl, rfl, by decide +kernel, rfl, by decide +kernel, by decide +kernel⟩
def b_grid_of_0 : MS := (sAsg (mCall m_summed [] (mCons (mVar 1) mNil)) (gN 2))
def b_grid_of_1 : MS := (sRet (mLc false (mRng1 (mVar 0)) (Tgt.nm 3).M tYesM (mLc false (mRng1 (mVar 0)) (Tgt.nm 4).M tYesM (mDGet (mVar 2) (mAp oTup (mCons (mAp oMin2 (mCons (mVar 3) (mCons (mVar 4) mNil))) (mCons (mAp oMax2 (mCons (mVar 3) (mCons (mVar 4) mNil))) mNil))) (mC (.int 0))) [4]) [3]))
def b_grid_of : MS := (sSeq b_grid_of_0 b_grid_of_1)
def m_grid_of : MF := mDef 2 5 b_grid_of
theorem e_grid_of (x0 x1 : D) (C : Store) : m_grid_of [x0, x1] C = finS C.length (b_grid_of ⟨C.length, [some x0, some x1, none, none, none]⟩ C) := mDef_e rfl rfl
theorem ar_grid_of : Ar 2 m_grid_of := mDef_ar
theorem ok_grid_of (T : Txt K mg) : ∃ fd, FnG P w K mg base 2 (a_grid_of K) fd ["size", "ties"] (SpD (cn K) 2 m_grid_of) ∧ Binds K fd ["size", "ties"] [] ∧ PySem.W.keepIn K (.ref (a_grid_of K)) = true := by
  obtain ⟨fd_summed, F_summed, B_summed, kp_summed⟩ := ok_summed (P := P) (w := w) (base := base) T
  obtain ⟨fd, F⟩ := T.f_grid_of
  refine ⟨fd, fn_ok (k := cn K) F sc_grid_of (by decide) fun cdv A outer s H E hr => ?_, F.bindsN fun _ _ _ _ _ _ us hl => match us, hl with | [_, _], _ => rfl, F.kp⟩
  have tk : Takes (cxOf (L2.CX P w) P w K mg base ["size", "ties", "found", "u", "v"] "grid_of" (defScope s_grid_of) (a_grid_of K) cdv A outer s H E) (fun c d _ H => E c d H) := takes_of rfl rfl rfl rfl
  exact (dss_cons (ds_set (i := 2) sc_grid_of.nd rfl (Or.inr rfl) (de_call tk F_summed ar_summed (hr.mono (by decide)) (by rfl) T.g_summed kp_summed B_summed .nil (fun _ _ _ => .nil) (da_cons (dv 1) da_nil)))
  (dss_one (ds_ret (de_lc (own := [("u", 3)]) false rfl rfl sc_grid_of.nd (di_rng1 (by rfl) T.n_range (dv 0)) (blkOk_by (own := [("u", 3)]) rfl) (by decide) (fun _ _ _ _ _ => (tg_nm (i := 3) sc_grid_of.nd rfl (by first | exact Or.inl rfl | exact Or.inr rfl))) (fun _ _ _ _ _ => dts_nil) (fun _ _ _ _ _ => (de_lc (own := [("v", 4)]) false rfl rfl sc_grid_of.nd (di_rng1 (by rfl) T.n_range (dv 0)) (blkOk_by (own := [("v", 4)]) rfl) (by decide) (fun _ _ _ _ _ => (tg_nm (i := 4) sc_grid_of.nd rfl (by first | exact Or.inl rfl | exact Or.inr rfl))) (fun _ _ _ _ _ => dts_nil) (fun _ _ _ _ _ => (de_dget (hu_of hr.room) (dv 2) (de_tup (da_cons (de_callB (call_min2 rfl) d_min2 (by rfl) T.n_min (by decide +kernel) (da_cons (dv 3) (da_cons (dv 4) da_nil))) (da_cons (de_callB (call_max2 rfl) d_max2 (by rfl) T.n_max (by decide +kernel) (da_cons (dv 3) (da_cons (dv 4) da_nil))) da_nil))) de_int))))))))
theorem sc_Web__init : FnScope ["self", "size", "ties", "at", "item", "grid", "pairs", "line", "number", "u", "v"] ["self", "size", "ties"] (defScope s_Web__init) := ⟨rfl, rfl, rfl, by decide +kernel, rfl, by decide +kernel, by decide +kernel⟩
def b_Web__init_0 : MS := (sIf (tNotM (mTst (mCall m_is_count [] (mCons (mVar 1) (mCons (mC (.int 0)) (mCons (mC (.int 60)) mNil)))))) sNever sNext)
def b_Web__init_1 : MS := (sIf (tNotM (mTst (mIsi2 [0] (.ty .list) (.ty .tuple) (mVar 2)))) sNever sNext)
def b_Web__init_2b_0 : MS := (sIf (tNotM (mTst (mCall m_is_tie [] (mCons (mVar 1) (mCons (mVar 4) mNil))))) sNever sNext)
def b_Web__init_2 : MS := (sFor (mEnum (mVar 2)) (Tgt.tp [3, 4]).M b_Web__init_2b_0)
def b_Web__init_3 : MS := (sAsg (mCall m_grid_of [] (mCons (mVar 1) (mCons (mVar 2) mNil))) (gN 5))
def b_Web__init_4 : MS := (sIf (mTst (mAp oAny (mCons (mLc2 false (mSeq (mVar 5)) (Tgt.nm 7).M tYesM (mSeq (mVar 7)) (Tgt.nm 8).M tYesM (mOp oGt (mVar 8) (mC (.int 1000000000))) [7, 8] [8]) mNil))) (sRaise 2 1 (mCons (mC (.int 1000000000)) mNil)) sNext)
def b_Web__init_5 : MS := (sAsg (mLc2 false (mRng1 (mVar 1)) (Tgt.nm 9).M tYesM (mRng2 (mOp oAdd (mVar 9) (mC (.int 1))) (mVar 1)) (Tgt.nm 10).M tYesM (mAp oTup (mCons (mVar 9) (mCons (mVar 10) mNil))) [9, 10] [10]) (gN 6))
def b_Web__init_6 : MS := (sFldS 0 0 (mVar 1) (mVar 0))
def b_Web__init_7 : MS := (sFldS 0 1 (mVar 5) (mVar 0))
def b_Web__init_8 : MS := (sFldS 0 2 (mAp oTupOf (mCons (mLc false (mSeq (mVar 6)) (Tgt.tp [9, 10]).M (mTst (mOp oGt (mOp oIx (mOp oIx (mVar 5) (mVar 9)) (mVar 10)) (mC (.int 0)))) (mAp oTup (mCons (mVar 9) (mCons (mVar 10) (mCons (mOp oIx (mOp oIx (mVar 5) (mVar 9)) (mVar 10)) mNil)))) [9, 10]) mNil)) (mVar 0))
def b_Web__init : MS := (sSeq b_Web__init_0 (sSeq b_Web__init_1 (sSeq b_Web__init_2 (sSeq b_Web__init_3 (sSeq b_Web__init_4 (sSeq b_Web__init_5 (sSeq b_Web__init_6 (sSeq b_Web__init_7 b_Web__init_8))))))))
def m_Web__init : MF := mDef 3 11 b_Web__init
theorem e_Web__init (x0 x1 x2 : D) (C : Store) : m_Web__init [x0, x1, x2] C = finS C.length (b_Web__init ⟨C.length, [some x0, some x1, some x2, none, none, none, none, none, none, none, none]⟩ C) := mDef_e rfl rfl
theorem ar_Web__init : Ar 3 m_Web__init := mDef_ar
theorem ok_Web__init (T : Txt K mg) : ∃ fd, FnG P w K mg base 4 (a_Web__init K) fd ["self", "size", "ties"] (SpD (cn K) 3 m_Web__init) ∧ Binds K fd ["self", "size", "ties"] [] ∧ PySem.W.keepIn K (.ref (a_Web__init K)) = true ∧ ∃ ds, Vals [V.ref (d_Web__init K)] ds ∧ Binds K fd ["self", "size", "ties"] ds := by
  obtain ⟨fd_is_count, F_is_count, B_is_count, kp_is_count⟩ := ok_is_count (P := P) (w := w) (base := base) T
  obtain ⟨fd_is_tie, F_is_tie, B_is_tie, kp_is_tie⟩ := ok_is_tie (P := P) (w := w) (base := base) T
  obtain ⟨fd_grid_of, F_grid_of, B_grid_of, kp_grid_of⟩ := ok_grid_of (P := P) (w := w) (base := base) T
  obtain ⟨fx_TooMany, F1_TooMany, B1_TooMany⟩ := okx_TooMany (P := P) (w := w) (base := base) T
  obtain ⟨t_MOST, h_MOST⟩ := T.c_MOST
  obtain ⟨fd, F⟩ := T.f_Web__init
  refine ⟨fd, fn_ok (k := cn K) F sc_Web__init (by decide) fun cdv A outer s H E hr => ?_, ?b0, F.kp, ?b1⟩
  rotate_left
  · obtain ⟨ds, v, b⟩ := F.binds1 (ps := ["self", "size", "ties"]) 3 1 (List.cons_ne_nil _ _) rfl fun _ _ _ _ _ _ _ us its h1 h2 => match us, its, h1, h2 with | [_, _, _], [_], _, _ => ⟨_, rfl, by with_unfolding_all rfl⟩
    cases v
    exact b
  · exact F.binds1 2 0 (List.cons_ne_nil _ _) rfl fun _ _ _ _ _ _ _ us its h1 h2 => match us, its, h1, h2 with | [_, _], [_], _, _ => ⟨_, rfl, rfl⟩
  have tk : Takes (cxOf (L2.CX P w) P w K mg base ["self", "size", "ties", "at", "item", "grid", "pairs", "line", "number", "u", "v"] "Web.__init__" (defScope s_Web__init) (a_Web__init K) cdv A outer s H E) (fun c d _ H => E c d H) := takes_of rfl rfl rfl rfl
  exact (dss_cons (ds_if (dt_not (dt_val (de_call tk F_is_count ar_is_count (hr.mono (by decide)) (by rfl) T.g_is_count kp_is_count B_is_count .nil (fun _ _ _ => .nil) (da_cons (dv 1) (da_cons de_int (da_cons de_int da_nil)))))) (dss_one ds_never) dss_nil)
  (dss_cons (ds_if (dt_not (dt_val (de_isi2 (by rfl) T.n_isinstance T.isa rfl rfl rfl (dv 2) (pe_bltn (v := .ty "list") (by rfl) T.n_list (by decide +kernel) rfl) (pe_bltn (v := .ty "tuple") (by rfl) T.n_tuple (by decide +kernel) rfl)))) (dss_one ds_never) dss_nil)
  (dss_cons (ds_for (passes_of rfl) rfl (di_enum (by rfl) T.n_enumerate rfl (dv 2)) (tg_tp [3, 4] rfl rfl (pgs_cons (pg_name (i := 3) sc_Web__init.nd rfl (Or.inl rfl)) (pgs_cons (pg_name (i := 4) sc_Web__init.nd rfl (Or.inl rfl)) pgs_nil))) (dss_one (ds_if (dt_not (dt_val (de_call tk F_is_tie ar_is_tie (hr.mono (by decide)) (by rfl) T.g_is_tie kp_is_tie B_is_tie .nil (fun _ _ _ => .nil) (da_cons (dv 1) (da_cons (dv 4) da_nil))))) (dss_one ds_never) dss_nil)))
  (dss_cons (ds_set (i := 5) sc_Web__init.nd rfl (Or.inr rfl) (de_call tk F_grid_of ar_grid_of (hr.mono (by decide)) (by rfl) T.g_grid_of kp_grid_of B_grid_of .nil (fun _ _ _ => .nil) (da_cons (dv 1) (da_cons (dv 2) da_nil))))
  (dss_cons (ds_if (dt_val (de_callB (cr_any rfl) d_any (by rfl) T.n_any (by decide +kernel) (da_cons (de_lc2 (own := [("line", 7), ("number", 8)]) (vs1 := [8]) false rfl rfl sc_Web__init.nd (di_seq rfl (dv 5)) (blkOk_by (own := [("line", 7), ("number", 8)]) rfl) (by decide) (by decide) (by decide) (fun _ _ _ _ _ => (tg_nm (i := 7) sc_Web__init.nd rfl (by first | exact Or.inl rfl | exact Or.inr rfl))) (fun _ _ _ _ _ => dts_nil) (fun _ _ _ _ _ => (di_seq rfl (dv 7))) (fun _ _ _ _ _ => (tg_nm (i := 8) sc_Web__init.nd rfl (by first | exact Or.inl rfl | exact Or.inr rfl))) (fun _ _ _ _ _ => dts_nil) (fun _ _ _ _ _ => (de_cmp op_gt d_gt (dv 8) (de_glob (fun _ _ _ => .int _) (by rfl) h_MOST ⟨_, rfl⟩) (nomark _)))) da_nil))) (dss_one (ds_raise1 2 rfl tk rfl T.xi_TooMany rfl F1_TooMany (hr.mono (by decide)) B1_TooMany (by rfl) T.g_TooMany (da_cons (de_glob (fun _ _ _ => .int _) (by rfl) h_MOST ⟨_, rfl⟩) da_nil))) dss_nil)
  (dss_cons (ds_setLc2 (i := 6) (own := [("u", 9), ("v", 10)]) (vs1 := [10]) false rfl rfl sc_Web__init.nd rfl rfl (sw_true rfl rfl rfl (by decide +kernel)) (di_rng1 (by rfl) T.n_range (dv 1)) (blkOk_by (own := [("u", 9), ("v", 10)]) rfl) (by decide) (by decide) (by decide) (fun _ _ _ _ _ => (tg_nm (i := 9) sc_Web__init.nd rfl (by first | exact Or.inl rfl | exact Or.inr rfl))) (fun _ _ _ _ _ => dts_nil) (fun _ _ _ _ _ => (di_rng2 (by rfl) T.n_range (de_op op_add d_add (dv 9) de_int) (dv 1))) (fun _ _ _ _ _ => (tg_nm (i := 10) sc_Web__init.nd rfl (by first | exact Or.inl rfl | exact Or.inr rfl))) (fun _ _ _ _ _ => dts_nil) (fun _ _ _ _ _ => (de_tup (da_cons (dv 9) (da_cons (dv 10) da_nil)))))
  (dss_cons (ds_fld 0 0 rfl T.cl_Web T.no_Web_size nd_Web rfl (show 3 < 1000 by decide) (dv 0) (dv 1))
  (dss_cons (ds_fld 0 1 rfl T.cl_Web T.no_Web_grid nd_Web rfl (show 3 < 1000 by decide) (dv 0) (dv 5))
  (dss_one (ds_fld 0 2 rfl T.cl_Web T.no_Web_ties nd_Web rfl (show 3 < 1000 by decide) (dv 0) (de_callTy call_tuple_of d_tupOf (by rfl) T.n_tuple (by decide +kernel) (da_cons (de_lc (own := [("u", 9), ("v", 10)]) false rfl rfl sc_Web__init.nd (di_seq rfl (dv 6)) (blkOk_by (own := [("u", 9), ("v", 10)]) rfl) (by decide) (fun _ _ _ _ _ => (tg_tp [9, 10] rfl rfl (pgs_cons (pg_name (i := 9) sc_Web__init.nd rfl (by first | exact Or.inl rfl | exact Or.inr rfl)) (pgs_cons (pg_name (i := 10) sc_Web__init.nd rfl (by first | exact Or.inl rfl | exact Or.inr rfl)) pgs_nil)))) (fun _ _ _ _ _ => (pts_one (dt_cmp op_gt d_gt (de_ix ix_seq d_ix (de_ix ix_seq d_ix (dv 5) (dv 9)) (dv 10)) de_int (nomark _)))) (fun _ _ _ _ _ => (de_tup (da_cons (dv 9) (da_cons (dv 10) (da_cons (de_ix ix_seq d_ix (de_ix ix_seq d_ix (dv 5) (dv 9)) (dv 10)) da_nil)))))) da_nil))))))))))))
theorem sc_Web_total : FnScope ["self", "u", "v", "number"] ["self"] (defScope s_Web_total) := ⟨rfl, rfl, rfl, by decide +kernel, rfl, by decide +kernel, by decide +kernel⟩
def b_Web_total : MS := (sRet (mAp oSum (mCons (mLc false (mSeq (mUn (oFld 0 2) (mVar 0))) (Tgt.tp [1, 2, 3]).M tYesM (mVar 3) [1, 2, 3]) mNil)))
def m_Web_total : MF := mDef 1 4 b_Web_total
theorem e_Web_total (x0 : D) (C : Store) : m_Web_total [x0] C = finS C.length (b_Web_total ⟨C.length, [some x0, none, none, none]⟩ C) := mDef_e rfl rfl
theorem ar_Web_total : Ar 1 m_Web_total := mDef_ar
theorem ok_Web_total (T : Txt K mg) : ∃ fd, FnG P w K mg base 1 (a_Web_total K) fd ["self"] (SpD (cn K) 1 m_Web_total) ∧ Binds K fd ["self"] [] ∧ PySem.W.keepIn K (.ref (a_Web_total K)) = true := by
  obtain ⟨fd, F⟩ := T.f_Web_total
  refine ⟨fd, fn_ok (k := cn K) F sc_Web_total (by decide) fun cdv A outer s H E hr => ?_, F.bindsN fun _ _ _ _ _ _ us hl => match us, hl with | [_], _ => rfl, F.kp⟩
  have tk : Takes (cxOf (L2.CX P w) P w K mg base ["self", "u", "v", "number"] "Web.total" (defScope s_Web_total) (a_Web_total K) cdv A outer s H E) (fun c d _ H => E c d H) := takes_of rfl rfl rfl rfl
  exact (dss_one (ds_ret (de_callB (cr_sum rfl) d_sum (by rfl) T.n_sum (by decide +kernel) (da_cons (de_lc (own := [("u", 1), ("v", 2), ("number", 3)]) false rfl rfl sc_Web_total.nd (di_seq rfl (de_fld 0 2 rfl T.cl_Web T.no_Web_ties nd_Web rfl (dv 0))) (blkOk_by (own := [("u", 1), ("v", 2), ("number", 3)]) rfl) (by decide) (fun _ _ _ _ _ => (tg_tp [1, 2, 3] rfl rfl (pgs_cons (pg_name (i := 1) sc_Web_total.nd rfl (by first | exact Or.inl rfl | exact Or.inr rfl)) (pgs_cons (pg_name (i := 2) sc_Web_total.nd rfl (by first | exact Or.inl rfl | exact Or.inr rfl)) (pgs_cons (pg_name (i := 3) sc_Web_total.nd rfl (by first | exact Or.inl rfl | exact Or.inr rfl)) pgs_nil))))) (fun _ _ _ _ _ => dts_nil) (fun _ _ _ _ _ => (dv 3))) da_nil))))
theorem sc_Web_degrees : FnScope ["self", "line"] ["self"] (defScope s_Web_degrees) := ⟨rfl, rfl, rfl, by decide +kernel, rfl, by decide +kernel, by decide +kernel⟩
def b_Web_degrees : MS := (sRet (mAp oTupOf (mCons (mLc false (mSeq (mUn (oFld 0 1) (mVar 0))) (Tgt.nm 1).M tYesM (mAp oSum (mCons (mVar 1) mNil)) [1]) mNil)))
def m_Web_degrees : MF := mDef 1 2 b_Web_degrees
theorem e_Web_degrees (x0 : D) (C : Store) : m_Web_degrees [x0] C = finS C.length (b_Web_degrees ⟨C.length, [some x0, none]⟩ C) := mDef_e rfl rfl
theorem ar_Web_degrees : Ar 1 m_Web_degrees := mDef_ar
theorem ok_Web_degrees (T : Txt K mg) : ∃ fd, FnG P w K mg base 1 (a_Web_degrees K) fd ["self"] (SpD (cn K) 1 m_Web_degrees) ∧ Binds K fd ["self"] [] ∧ PySem.W.keepIn K (.ref (a_Web_degrees K)) = true := by
  obtain ⟨fd, F⟩ := T.f_Web_degrees
  refine ⟨fd, fn_ok (k := cn K) F sc_Web_degrees (by decide) fun cdv A outer s H E hr => ?_, F.bindsN fun _ _ _ _ _ _ us hl => match us, hl with | [_], _ => rfl, F.kp⟩
  have tk : Takes (cxOf (L2.CX P w) P w K mg base ["self", "line"] "Web.degrees" (defScope s_Web_degrees) (a_Web_degrees K) cdv A outer s H E) (fun c d _ H => E c d H) := takes_of rfl rfl rfl rfl
  exact (dss_one (ds_ret (de_callTy call_tuple_of d_tupOf (by rfl) T.n_tuple (by decide +kernel) (da_cons (de_lc (own := [("line", 1)]) false rfl rfl sc_Web_degrees.nd (di_seq rfl (de_fld 0 1 rfl T.cl_Web T.no_Web_grid nd_Web rfl (dv 0))) (blkOk_by (own := [("line", 1)]) rfl) (by decide) (fun _ _ _ _ _ => (tg_nm (i := 1) sc_Web_degrees.nd rfl (by first | exact Or.inl rfl | exact Or.inr rfl))) (fun _ _ _ _ _ => dts_nil) (fun _ _ _ _ _ => (de_callB (cr_sum rfl) d_sum (by rfl) T.n_sum (by decide +kernel) (da_cons (dv 1) da_nil)))) da_nil))))
theorem sc_Web__add : FnScope ["self", "other"] ["self", "other"] (defScope s_Web__add) := ⟨rfl, rfl, rfl, by decide +kernel, rfl, by decide +kernel, by decide +kernel⟩
def b_Web__add_0 : MS := (sIf (tNotM (mTst (mIsi [0] (.own 0) (mVar 1)))) sNever sNext)
def b_Web__add_1 : MS := (sIf (mTst (mOp (oEqA true) (mUn (oFld 0 0) (mVar 0)) (mUn (oFld 0 0) (mVar 1)))) (sRaise 4 2 (mCons (mUn (oFld 0 0) (mVar 0)) (mCons (mUn (oFld 0 0) (mVar 1)) mNil))) sNext)
def b_Web__add_2 : MS := (sRet (mMake false 0 3 m_Web__init [] (mCons (mUn (oFld 0 0) (mVar 0)) (mCons (mOp oCatT (mUn (oFld 0 2) (mVar 0)) (mUn (oFld 0 2) (mVar 1))) mNil))))
def b_Web__add : MS := (sSeq b_Web__add_0 (sSeq b_Web__add_1 b_Web__add_2))
def m_Web__add : MF := mDef 2 2 b_Web__add
theorem e_Web__add (x0 x1 : D) (C : Store) : m_Web__add [x0, x1] C = finS C.length (b_Web__add ⟨C.length, [some x0, some x1]⟩ C) := mDef_e rfl rfl
theorem ar_Web__add : Ar 2 m_Web__add := mDef_ar
theorem ok_Web__add (T : Txt K mg) : ∃ fd, FnG P w K mg base 6 (a_Web__add K) fd ["self", "other"] (SpD (cn K) 2 m_Web__add) ∧ Binds K fd ["self", "other"] [] ∧ PySem.W.keepIn K (.ref (a_Web__add K)) = true := by
  obtain ⟨fx_Unequal, F1_Unequal, B1_Unequal⟩ := okx_Unequal (P := P) (w := w) (base := base) T
  obtain ⟨fd_Web__init, F_Web__init, B_Web__init, kp_Web__init, ds_Web__init, vd_Web__init, Bd_Web__init⟩ := ok_Web__init (P := P) (w := w) (base := base) T
  obtain ⟨fd, F⟩ := T.f_Web__add
  refine ⟨fd, fn_ok (k := cn K) F sc_Web__add (by decide) fun cdv A outer s H E hr => ?_, F.bindsN fun _ _ _ _ _ _ us hl => match us, hl with | [_, _], _ => rfl, F.kp⟩
  have tk : Takes (cxOf (L2.CX P w) P w K mg base ["self", "other"] "Web.__add__" (defScope s_Web__add) (a_Web__add K) cdv A outer s H E) (fun c d _ H => E c d H) := takes_of rfl rfl rfl rfl
  exact (dss_cons (ds_if (dt_not (dt_val (de_isi (by rfl) T.n_isinstance T.isa rfl rfl (dv 1) (pe_glob (by rfl) T.g_Web rfl)))) (dss_one ds_never) dss_nil)
  (dss_cons (ds_if (dt_cmp (op_ne.or (op_neD hr.room.units)) d_neA (de_fld 0 0 rfl T.cl_Web T.no_Web_size nd_Web rfl (dv 0)) (de_fld 0 0 rfl T.cl_Web T.no_Web_size nd_Web rfl (dv 1)) (nomark _)) (dss_one (ds_raise2 4 rfl tk rfl T.xi_Unequal rfl F1_Unequal (hr.mono (by decide)) B1_Unequal (by rfl) T.g_Unequal (da_cons (de_fld 0 0 rfl T.cl_Web T.no_Web_size nd_Web rfl (dv 0)) (da_cons (de_fld 0 0 rfl T.cl_Web T.no_Web_size nd_Web rfl (dv 1)) da_nil)))) dss_nil)
  (dss_one (ds_ret (de_make false 0 3 tk rfl T.mk_Web F_Web__init ar_Web__init rfl (hr.mono (by decide)) (by rfl) T.g_Web B_Web__init .nil (fun _ _ _ => .nil) (da_cons (de_fld 0 0 rfl T.cl_Web T.no_Web_size nd_Web rfl (dv 0)) (da_cons (de_op op_catA d_catT (de_fld 0 2 rfl T.cl_Web T.no_Web_ties nd_Web rfl (dv 0)) (de_fld 0 2 rfl T.cl_Web T.no_Web_ties nd_Web rfl (dv 1))) da_nil)))))))
theorem sc_Web__sub : FnScope ["self", "other", "u", "v", "number"] ["self", "other"] (defScope s_Web__sub) := ⟨rfl, rfl, rfl, by decide +kernel, rfl, by decide +kernel, by decide +kernel⟩
def b_Web__sub_0 : MS := (sIf (tNotM (mTst (mIsi [0] (.own 0) (mVar 1)))) sNever sNext)
def b_Web__sub_1 : MS := (sIf (mTst (mOp (oEqA true) (mUn (oFld 0 0) (mVar 0)) (mUn (oFld 0 0) (mVar 1)))) (sRaise 4 2 (mCons (mUn (oFld 0 0) (mVar 0)) (mCons (mUn (oFld 0 0) (mVar 1)) mNil))) sNext)
def b_Web__sub_2b_0 : MS := (sIf (mTst (mOp oGt (mVar 4) (mOp oIx (mOp oIx (mUn (oFld 0 1) (mVar 0)) (mVar 2)) (mVar 3)))) (sRaise 3 1 (mCons (mAp oTup (mCons (mVar 2) (mCons (mVar 3) mNil))) mNil)) sNext)
def b_Web__sub_2 : MS := (sFor (mSeq (mUn (oFld 0 2) (mVar 1))) (Tgt.tp [2, 3, 4]).M b_Web__sub_2b_0)
def b_Web__sub_3 : MS := (sRet (mMake false 0 3 m_Web__init [] (mCons (mUn (oFld 0 0) (mVar 0)) (mCons (mLc false (mSeq (mUn (oFld 0 2) (mVar 0))) (Tgt.tp [2, 3, 4]).M tYesM (mAp oTup (mCons (mVar 2) (mCons (mVar 3) (mCons (mOp oSub (mVar 4) (mOp oIx (mOp oIx (mUn (oFld 0 1) (mVar 1)) (mVar 2)) (mVar 3))) mNil)))) [2, 3, 4]) mNil))))
def b_Web__sub : MS := (sSeq b_Web__sub_0 (sSeq b_Web__sub_1 (sSeq b_Web__sub_2 b_Web__sub_3)))
def m_Web__sub : MF := mDef 2 5 b_Web__sub
theorem e_Web__sub (x0 x1 : D) (C : Store) : m_Web__sub [x0, x1] C = finS C.length (b_Web__sub ⟨C.length, [some x0, some x1, none, none, none]⟩ C) := mDef_e rfl rfl
theorem ar_Web__sub : Ar 2 m_Web__sub := mDef_ar
theorem ok_Web__sub (T : Txt K mg) : ∃ fd, FnG P w K mg base 6 (a_Web__sub K) fd ["self", "other"] (SpD (cn K) 2 m_Web__sub) ∧ Binds K fd ["self", "other"] [] ∧ PySem.W.keepIn K (.ref (a_Web__sub K)) = true := by
  obtain ⟨fx_Unequal, F1_Unequal, B1_Unequal⟩ := okx_Unequal (P := P) (w := w) (base := base) T
  obtain ⟨fx_TooFew, F1_TooFew, B1_TooFew⟩ := okx_TooFew (P := P) (w := w) (base := base) T
  obtain ⟨fd_Web__init, F_Web__init, B_Web__init, kp_Web__init, ds_Web__init, vd_Web__init, Bd_Web__init⟩ := ok_Web__init (P := P) (w := w) (base := base) T
  obtain ⟨fd, F⟩ := T.f_Web__sub
  refine ⟨fd, fn_ok (k := cn K) F sc_Web__sub (by decide) fun cdv A outer s H E hr => ?_, F.bindsN fun _ _ _ _ _ _ us hl => match us, hl with | [_, _], _ => rfl, F.kp⟩
  have tk : Takes (cxOf (L2.CX P w) P w K mg base ["self", "other", "u", "v", "number"] "Web.__sub__" (defScope s_Web__sub) (a_Web__sub K) cdv A outer s H E) (fun c d _ H => E c d H) := takes_of rfl rfl rfl rfl
  exact (dss_cons (ds_if (dt_not (dt_val (de_isi (by rfl) T.n_isinstance T.isa rfl rfl (dv 1) (pe_glob (by rfl) T.g_Web rfl)))) (dss_one ds_never) dss_nil)
  (dss_cons (ds_if (dt_cmp (op_ne.or (op_neD hr.room.units)) d_neA (de_fld 0 0 rfl T.cl_Web T.no_Web_size nd_Web rfl (dv 0)) (de_fld 0 0 rfl T.cl_Web T.no_Web_size nd_Web rfl (dv 1)) (nomark _)) (dss_one (ds_raise2 4 rfl tk rfl T.xi_Unequal rfl F1_Unequal (hr.mono (by decide)) B1_Unequal (by rfl) T.g_Unequal (da_cons (de_fld 0 0 rfl T.cl_Web T.no_Web_size nd_Web rfl (dv 0)) (da_cons (de_fld 0 0 rfl T.cl_Web T.no_Web_size nd_Web rfl (dv 1)) da_nil)))) dss_nil)
  (dss_cons (ds_for (passes_of rfl) rfl (di_seq rfl (de_fld 0 2 rfl T.cl_Web T.no_Web_ties nd_Web rfl (dv 1))) (tg_tp [2, 3, 4] rfl rfl (pgs_cons (pg_name (i := 2) sc_Web__sub.nd rfl (Or.inl rfl)) (pgs_cons (pg_name (i := 3) sc_Web__sub.nd rfl (Or.inl rfl)) (pgs_cons (pg_name (i := 4) sc_Web__sub.nd rfl (Or.inl rfl)) pgs_nil)))) (dss_one (ds_if (dt_cmp op_gt d_gt (dv 4) (de_ix ix_seq d_ix (de_ix ix_seq d_ix (de_fld 0 1 rfl T.cl_Web T.no_Web_grid nd_Web rfl (dv 0)) (dv 2)) (dv 3)) (nomark _)) (dss_one (ds_raise1 3 rfl tk rfl T.xi_TooFew rfl F1_TooFew (hr.mono (by decide)) B1_TooFew (by rfl) T.g_TooFew (da_cons (de_tup (da_cons (dv 2) (da_cons (dv 3) da_nil))) da_nil))) dss_nil)))
  (dss_one (ds_ret (de_make false 0 3 tk rfl T.mk_Web F_Web__init ar_Web__init rfl (hr.mono (by decide)) (by rfl) T.g_Web B_Web__init .nil (fun _ _ _ => .nil) (da_cons (de_fld 0 0 rfl T.cl_Web T.no_Web_size nd_Web rfl (dv 0)) (da_cons (de_lc (own := [("u", 2), ("v", 3), ("number", 4)]) false rfl rfl sc_Web__sub.nd (di_seq rfl (de_fld 0 2 rfl T.cl_Web T.no_Web_ties nd_Web rfl (dv 0))) (blkOk_by (own := [("u", 2), ("v", 3), ("number", 4)]) rfl) (by decide) (fun _ _ _ _ _ => (tg_tp [2, 3, 4] rfl rfl (pgs_cons (pg_name (i := 2) sc_Web__sub.nd rfl (by first | exact Or.inl rfl | exact Or.inr rfl)) (pgs_cons (pg_name (i := 3) sc_Web__sub.nd rfl (by first | exact Or.inl rfl | exact Or.inr rfl)) (pgs_cons (pg_name (i := 4) sc_Web__sub.nd rfl (by first | exact Or.inl rfl | exact Or.inr rfl)) pgs_nil))))) (fun _ _ _ _ _ => dts_nil) (fun _ _ _ _ _ => (de_tup (da_cons (dv 2) (da_cons (dv 3) (da_cons (de_op op_sub d_sub (dv 4) (de_ix ix_seq d_ix (de_ix ix_seq d_ix (de_fld 0 1 rfl T.cl_Web T.no_Web_grid nd_Web rfl (dv 1)) (dv 2)) (dv 3))) da_nil)))))) da_nil))))))))
theorem sc_Web__mul : FnScope ["self", "other", "u", "v", "number"] ["self", "other"] (defScope s_Web__mul) := ⟨rfl, rfl, rfl, by decide +kernel, rfl, by decide +kernel, by decide +kernel⟩
def b_Web__mul_0 : MS := (sIf (tNotM (mTst (mCall m_is_integer [] (mCons (mVar 1) mNil)))) sNever sNext)
def b_Web__mul_1 : MS := (sIf (mTst (mAp oAny (mCons (mLc false (mSeq (mUn (oFld 0 2) (mVar 0))) (Tgt.tp [2, 3, 4]).M tYesM (mOp oGt (mOp oMul (mVar 4) (mVar 1)) (mC (.int 1000000000))) [2, 3, 4]) mNil))) (sRaise 2 1 (mCons (mC (.int 1000000000)) mNil)) sNext)
def b_Web__mul_2 : MS := (sRet (mMake false 0 3 m_Web__init [] (mCons (mUn (oFld 0 0) (mVar 0)) (mCons (mLc false (mSeq (mUn (oFld 0 2) (mVar 0))) (Tgt.tp [2, 3, 4]).M tYesM (mAp oTup (mCons (mVar 2) (mCons (mVar 3) (mCons (mOp oMul (mVar 4) (mVar 1)) mNil)))) [2, 3, 4]) mNil))))
def b_Web__mul : MS := (sSeq b_Web__mul_0 (sSeq b_Web__mul_1 b_Web__mul_2))
def m_Web__mul : MF := mDef 2 5 b_Web__mul
theorem e_Web__mul (x0 x1 : D) (C : Store) : m_Web__mul [x0, x1] C = finS C.length (b_Web__mul ⟨C.length, [some x0, some x1, none, none, none]⟩ C) := mDef_e rfl rfl
theorem ar_Web__mul : Ar 2 m_Web__mul := mDef_ar
theorem ok_Web__mul (T : Txt K mg) : ∃ fd, FnG P w K mg base 6 (a_Web__mul K) fd ["self", "other"] (SpD (cn K) 2 m_Web__mul) ∧ Binds K fd ["self", "other"] [] ∧ PySem.W.keepIn K (.ref (a_Web__mul K)) = true := by
  obtain ⟨fd_is_integer, F_is_integer, B_is_integer, kp_is_integer⟩ := ok_is_integer (P := P) (w := w) (base := base) T
  obtain ⟨fx_TooMany, F1_TooMany, B1_TooMany⟩ := okx_TooMany (P := P) (w := w) (base := base) T
  obtain ⟨fd_Web__init, F_Web__init, B_Web__init, kp_Web__init, ds_Web__init, vd_Web__init, Bd_Web__init⟩ := ok_Web__init (P := P) (w := w) (base := base) T
  obtain ⟨t_MOST, h_MOST⟩ := T.c_MOST
  obtain ⟨fd, F⟩ := T.f_Web__mul
  refine ⟨fd, fn_ok (k := cn K) F sc_Web__mul (by decide) fun cdv A outer s H E hr => ?_, F.bindsN fun _ _ _ _ _ _ us hl => match us, hl with | [_, _], _ => rfl, F.kp⟩
  have tk : Takes (cxOf (L2.CX P w) P w K mg base ["self", "other", "u", "v", "number"] "Web.__mul__" (defScope s_Web__mul) (a_Web__mul K) cdv A outer s H E) (fun c d _ H => E c d H) := takes_of rfl rfl rfl rfl
  exact (dss_cons (ds_if (dt_not (dt_val (de_call tk F_is_integer ar_is_integer (hr.mono (by decide)) (by rfl) T.g_is_integer kp_is_integer B_is_integer .nil (fun _ _ _ => .nil) (da_cons (dv 1) da_nil)))) (dss_one ds_never) dss_nil)
  (dss_cons (ds_if (dt_val (de_callB (cr_any rfl) d_any (by rfl) T.n_any (by decide +kernel) (da_cons (de_lc (own := [("u", 2), ("v", 3), ("number", 4)]) false rfl rfl sc_Web__mul.nd (di_seq rfl (de_fld 0 2 rfl T.cl_Web T.no_Web_ties nd_Web rfl (dv 0))) (blkOk_by (own := [("u", 2), ("v", 3), ("number", 4)]) rfl) (by decide) (fun _ _ _ _ _ => (tg_tp [2, 3, 4] rfl rfl (pgs_cons (pg_name (i := 2) sc_Web__mul.nd rfl (by first | exact Or.inl rfl | exact Or.inr rfl)) (pgs_cons (pg_name (i := 3) sc_Web__mul.nd rfl (by first | exact Or.inl rfl | exact Or.inr rfl)) (pgs_cons (pg_name (i := 4) sc_Web__mul.nd rfl (by first | exact Or.inl rfl | exact Or.inr rfl)) pgs_nil))))) (fun _ _ _ _ _ => dts_nil) (fun _ _ _ _ _ => (de_cmp op_gt d_gt (de_op op_mul d_mul (dv 4) (dv 1)) (de_glob (fun _ _ _ => .int _) (by rfl) h_MOST ⟨_, rfl⟩) (nomark _)))) da_nil))) (dss_one (ds_raise1 2 rfl tk rfl T.xi_TooMany rfl F1_TooMany (hr.mono (by decide)) B1_TooMany (by rfl) T.g_TooMany (da_cons (de_glob (fun _ _ _ => .int _) (by rfl) h_MOST ⟨_, rfl⟩) da_nil))) dss_nil)
  (dss_one (ds_ret (de_make false 0 3 tk rfl T.mk_Web F_Web__init ar_Web__init rfl (hr.mono (by decide)) (by rfl) T.g_Web B_Web__init .nil (fun _ _ _ => .nil) (da_cons (de_fld 0 0 rfl T.cl_Web T.no_Web_size nd_Web rfl (dv 0)) (da_cons (de_lc (own := [("u", 2), ("v", 3), ("number", 4)]) false rfl rfl sc_Web__mul.nd (di_seq rfl (de_fld 0 2 rfl T.cl_Web T.no_Web_ties nd_Web rfl (dv 0))) (blkOk_by (own := [("u", 2), ("v", 3), ("number", 4)]) rfl) (by decide) (fun _ _ _ _ _ => (tg_tp [2, 3, 4] rfl rfl (pgs_cons (pg_name (i := 2) sc_Web__mul.nd rfl (by first | exact Or.inl rfl | exact Or.inr rfl)) (pgs_cons (pg_name (i := 3) sc_Web__mul.nd rfl (by first | exact Or.inl rfl | exact Or.inr rfl)) (pgs_cons (pg_name (i := 4) sc_Web__mul.nd rfl (by first | exact Or.inl rfl | exact Or.inr rfl)) pgs_nil))))) (fun _ _ _ _ _ => dts_nil) (fun _ _ _ _ _ => (de_tup (da_cons (dv 2) (da_cons (dv 3) (da_cons (de_op op_mul d_mul (dv 4) (dv 1)) da_nil)))))) da_nil)))))))
theorem sc_Web__rmul : FnScope ["self", "other"] ["self", "other"] (defScope s_Web__rmul) := ⟨rfl, rfl, rfl, by decide +kernel, rfl, by decide +kernel, by decide +kernel⟩
def b_Web__rmul_0 : MS := (sIf (tNotM (mTst (mCall m_is_integer [] (mCons (mVar 1) mNil)))) sNever sNext)
def b_Web__rmul_1 : MS := (sRet (mMulR 0 m_Web__mul (mVar 0) (mVar 1)))
def b_Web__rmul : MS := (sSeq b_Web__rmul_0 b_Web__rmul_1)
def m_Web__rmul : MF := mDef 2 2 b_Web__rmul
theorem e_Web__rmul (x0 x1 : D) (C : Store) : m_Web__rmul [x0, x1] C = finS C.length (b_Web__rmul ⟨C.length, [some x0, some x1]⟩ C) := mDef_e rfl rfl
theorem ar_Web__rmul : Ar 2 m_Web__rmul := mDef_ar
theorem ok_Web__rmul (T : Txt K mg) : ∃ fd, FnG P w K mg base 7 (a_Web__rmul K) fd ["self", "other"] (SpD (cn K) 2 m_Web__rmul) ∧ Binds K fd ["self", "other"] [] ∧ PySem.W.keepIn K (.ref (a_Web__rmul K)) = true := by
  obtain ⟨fd_is_integer, F_is_integer, B_is_integer, kp_is_integer⟩ := ok_is_integer (P := P) (w := w) (base := base) T
  obtain ⟨fd_Web__mul, F_Web__mul, B_Web__mul, kp_Web__mul⟩ := ok_Web__mul (P := P) (w := w) (base := base) T
  obtain ⟨fd, F⟩ := T.f_Web__rmul
  refine ⟨fd, fn_ok (k := cn K) F sc_Web__rmul (by decide) fun cdv A outer s H E hr => ?_, F.bindsN fun _ _ _ _ _ _ us hl => match us, hl with | [_, _], _ => rfl, F.kp⟩
  have tk : Takes (cxOf (L2.CX P w) P w K mg base ["self", "other"] "Web.__rmul__" (defScope s_Web__rmul) (a_Web__rmul K) cdv A outer s H E) (fun c d _ H => E c d H) := takes_of rfl rfl rfl rfl
  exact (dss_cons (ds_if (dt_not (dt_val (de_call tk F_is_integer ar_is_integer (hr.mono (by decide)) (by rfl) T.g_is_integer kp_is_integer B_is_integer .nil (fun _ _ _ => .nil) (da_cons (dv 1) da_nil)))) (dss_one ds_never) dss_nil)
  (dss_one (ds_ret (de_mulR 0 tk rfl (dv 0) (dv 1) T.mu_Web F_Web__mul ar_Web__mul (hr.mono (by decide)) B_Web__mul))))
theorem sc_law_bag : FnScope ["_law_script", "_law_cell"] ["_law_script"] (defScope s_law_bag) := ⟨rfl, rfl, rfl, by decide +kernel, rfl, by decide +kernel, by decide +kernel⟩
def b_law_bag : MS := (sRet (mAp (oLst true) (mCons (mC (.int 0)) (mCons (mC (.int 1234567891)) (mCons (mC (.int 0)) (mCons (mLc false (mSeq (mSlL false (mVar 0) mNoPart (mPart (mC (.int 63))))) (Tgt.nm 1).M tYesM (mAp oAbs (mCons (mVar 1) mNil)) [1]) mNil))))))
def m_law_bag : MF := mDefO 1 2 b_law_bag
theorem ar_law_bag : Ar 1 m_law_bag := mDefO_ar
theorem ok_law_bag (T : Txt K mg) : ∃ fd, FnG P w K mg base 1 (a_law_bag K) fd ["_law_script"] (SpD (cn K) 1 m_law_bag) ∧ Binds K fd ["_law_script"] [] ∧ PySem.W.keepIn K (.ref (a_law_bag K)) = true := by
  obtain ⟨fd, F⟩ := T.f_law_bag
  refine ⟨fd, fn_okO (k := cn K) F sc_law_bag (by decide) fun cdv A outer s H E hr => ?_, F.bindsN fun _ _ _ _ _ _ us hl => match us, hl with | [_], _ => rfl, F.kp⟩
  have tk : Takes (cxOf (L2.CX P w) P w K mg base ["_law_script", "_law_cell"] "_law_bag" (defScope s_law_bag) (a_law_bag K) cdv A outer s H E) (fun c d _ H => E c d H) := takes_of rfl rfl rfl rfl
  exact (dss_one (ds_ret (de_lst true (da_cons de_int (da_cons de_int (da_cons de_int (da_cons (de_lc (own := [("_law_cell", 1)]) false rfl rfl sc_law_bag.nd (di_seq rfl (de_slL false rfl (dv 0) do_none (do_some de_int))) (blkOk_by (own := [("_law_cell", 1)]) rfl) (by decide) (fun _ _ _ _ _ => (tg_nm (i := 1) sc_law_bag.nd rfl (by first | exact Or.inl rfl | exact Or.inr rfl))) (fun _ _ _ _ _ => dts_nil) (fun _ _ _ _ _ => (de_callB call_abs d_abs (by rfl) T.n_abs (by decide +kernel) (da_cons (dv 1) da_nil)))) da_nil)))))))
theorem sc_law_take : FnScope ["_law_bag_here", "_law_many", "_law_cell", "_law_mixed", "_law_drawn", "_law_early", "_law_second"] ["_law_bag_here", "_law_many"] (defScope s_law_take) := ⟨rfl, rfl, rfl, by decide +kernel, rfl, by decide +kernel, by decide +kernel⟩
def b_law_take_0t_0 : MS := (sAsg (mC (.int 0)) (gN 2))
def b_law_take_0t_1 : MS := (sIf (mTst (mOp oLt (mOp oIx (mVar 0) (mC (.int 2))) (mAp oLen (mCons (mOp oIx (mVar 0) (mC (.int 3))) mNil)))) (sAsg (mOp oIx (mOp oIx (mVar 0) (mC (.int 3))) (mOp oIx (mVar 0) (mC (.int 2)))) (gN 2)) sNext)
def b_law_take_0t_2 : MS := (sAugL (· + ·) (mVar 0) (mC (.int 2)) (mC (.int 1)))
def b_law_take_0t_3 : MS := (sIf (mTst (mOp oGe (mVar 2) (mC (.int 1000000000000000000)))) (sSetL (mVar 2) (mVar 0) (mC (.int 0))) sNext)
def b_law_take_0t_4 : MS := (sAsg (mOp oAdd (mOp oAdd (mOp oMul (mOp oIx (mVar 0) (mC (.int 1))) (mC (.int 48271))) (mOp oMod (mAp oInt (mCons (mVar 2) mNil)) (mC (.int 2147483647)))) (mOp oMul (mC (.int 7919)) (mOp oIx (mVar 0) (mC (.int 2))))) (gN 3))
def b_law_take_0t_5 : MS := (sSetL (mOp oMod (mAp oInt (mCons (mVar 3) mNil)) (mC (.int 2147483647))) (mVar 0) (mC (.int 1)))
def b_law_take_0 : MS := (sIf (mTst (mOp (oEqA false) (mOp oIx (mVar 0) (mC (.int 0))) (mC (.int 0)))) (sSeq b_law_take_0t_0 (sSeq b_law_take_0t_1 (sSeq b_law_take_0t_2 (sSeq b_law_take_0t_3 (sSeq b_law_take_0t_4 b_law_take_0t_5))))) sNext)
def b_law_take_1t_0 : MS := (sAsg (mOp oMod (mAp oInt (mCons (mOp oIx (mVar 0) (mC (.int 0))) mNil)) (mVar 1)) (gN 4))
def b_law_take_1t_1 : MS := (sSetL (mOp oDiv (mAp oInt (mCons (mOp oIx (mVar 0) (mC (.int 0))) mNil)) (mVar 1)) (mVar 0) (mC (.int 0)))
def b_law_take_1t_2 : MS := (sRet (mVar 4))
def b_law_take_1 : MS := (sIf (mTst (mOp oGt (mOp oIx (mVar 0) (mC (.int 0))) (mC (.int 0)))) (sSeq b_law_take_1t_0 (sSeq b_law_take_1t_1 b_law_take_1t_2)) sNext)
def b_law_take_2 : MS := (sAsg (mOp oMod (mAp oInt (mCons (mOp oMul (mOp oAdd (mOp oIx (mVar 0) (mC (.int 1))) (mC (.int 1))) (mC (.int 39373))) mNil)) (mC (.int 1000000007))) (gN 5))
def b_law_take_3 : MS := (sAsg (mOp oMod (mAp oInt (mCons (mOp oMul (mOp oMod (mAp oInt (mCons (mOp oMul (mVar 5) (mVar 5)) mNil)) (mC (.int 998244353))) (mC (.int 30011))) mNil)) (mC (.int 998244353))) (gN 6))
def b_law_take_4 : MS := (sRet (mOp oMod (mAp oInt (mCons (mOp oDiv (mVar 6) (mC (.int 7))) mNil)) (mVar 1)))
def b_law_take : MS := (sSeq b_law_take_0 (sSeq b_law_take_1 (sSeq b_law_take_2 (sSeq b_law_take_3 b_law_take_4))))
def m_law_take : MF := mDef 2 7 b_law_take
theorem e_law_take (x0 x1 : D) (C : Store) : m_law_take [x0, x1] C = finS C.length (b_law_take ⟨C.length, [some x0, some x1, none, none, none, none, none]⟩ C) := mDef_e rfl rfl
theorem ar_law_take : Ar 2 m_law_take := mDef_ar
theorem ok_law_take (T : Txt K mg) : ∃ fd, FnG P w K mg base 1 (a_law_take K) fd ["_law_bag_here", "_law_many"] (SpD (cn K) 2 m_law_take) ∧ Binds K fd ["_law_bag_here", "_law_many"] [] ∧ PySem.W.keepIn K (.ref (a_law_take K)) = true := by
  obtain ⟨fd, F⟩ := T.f_law_take
  refine ⟨fd, fn_ok (k := cn K) F sc_law_take (by decide) fun cdv A outer s H E hr => ?_, F.bindsN fun _ _ _ _ _ _ us hl => match us, hl with | [_, _], _ => rfl, F.kp⟩
  have tk : Takes (cxOf (L2.CX P w) P w K mg base ["_law_bag_here", "_law_many", "_law_cell", "_law_mixed", "_law_drawn", "_law_early", "_law_second"] "_law_take" (defScope s_law_take) (a_law_take K) cdv A outer s H E) (fun c d _ H => E c d H) := takes_of rfl rfl rfl rfl
  exact (dss_cons (ds_if (dt_cmp (op_eq.or (op_eqD hr.room.units)) d_eqA (de_ix ix_seq d_ix (dv 0) de_int) de_int (nomark _)) (dss_cons (ds_set (i := 2) sc_law_take.nd rfl (Or.inl rfl) de_int)
  (dss_cons (ds_if (dt_cmp op_lt d_lt (de_ix ix_seq d_ix (dv 0) de_int) (de_callB call_len_seq d_len (by rfl) T.n_len (by decide +kernel) (da_cons (de_ix ix_seq d_ix (dv 0) de_int) da_nil)) (nomark _)) (dss_one (ds_set (i := 2) sc_law_take.nd rfl (Or.inl rfl) (de_ix ix_seq d_ix (de_ix ix_seq d_ix (dv 0) de_int) (de_ix ix_seq d_ix (dv 0) de_int)))) dss_nil)
  (dss_cons (ds_augL ip_add (dv 0) de_int de_int)
  (dss_cons (ds_if (dt_cmp op_ge d_ge (dv 2) de_int (nomark _)) (dss_one (ds_setL (dv 2) (pg_sub (dv 0) de_int set_list))) dss_nil)
  (dss_cons (ds_set (i := 3) sc_law_take.nd rfl (Or.inl rfl) (de_op op_add d_add (de_op op_add d_add (de_op op_mul d_mul (de_ix ix_seq d_ix (dv 0) de_int) de_int) (de_op op_mod d_mod (de_callTy call_int1 d_int (by rfl) T.n_int (by decide +kernel) (da_cons (dv 2) da_nil)) de_int)) (de_op op_mul d_mul de_int (de_ix ix_seq d_ix (dv 0) de_int))))
  (dss_one (ds_setL (de_op op_mod d_mod (de_callTy call_int1 d_int (by rfl) T.n_int (by decide +kernel) (da_cons (dv 3) da_nil)) de_int) (pg_sub (dv 0) de_int set_list)))))))) dss_nil)
  (dss_cons (ds_if (dt_cmp op_gt d_gt (de_ix ix_seq d_ix (dv 0) de_int) de_int (nomark _)) (dss_cons (ds_set (i := 4) sc_law_take.nd rfl (Or.inl rfl) (de_op op_mod d_mod (de_callTy call_int1 d_int (by rfl) T.n_int (by decide +kernel) (da_cons (de_ix ix_seq d_ix (dv 0) de_int) da_nil)) (dv 1)))
  (dss_cons (ds_setL (de_op op_fdivW d_div (de_callTy call_int1 d_int (by rfl) T.n_int (by decide +kernel) (da_cons (de_ix ix_seq d_ix (dv 0) de_int) da_nil)) (dv 1)) (pg_sub (dv 0) de_int set_list))
  (dss_one (ds_ret (dv 4))))) dss_nil)
  (dss_cons (ds_set (i := 5) sc_law_take.nd rfl (Or.inl rfl) (de_op op_mod d_mod (de_callTy call_int1 d_int (by rfl) T.n_int (by decide +kernel) (da_cons (de_op op_mul d_mul (de_op op_add d_add (de_ix ix_seq d_ix (dv 0) de_int) de_int) de_int) da_nil)) de_int))
  (dss_cons (ds_set (i := 6) sc_law_take.nd rfl (Or.inl rfl) (de_op op_mod d_mod (de_callTy call_int1 d_int (by rfl) T.n_int (by decide +kernel) (da_cons (de_op op_mul d_mul (de_op op_mod d_mod (de_callTy call_int1 d_int (by rfl) T.n_int (by decide +kernel) (da_cons (de_op op_mul d_mul (dv 5) (dv 5)) da_nil)) de_int) de_int) da_nil)) de_int))
  (dss_one (ds_ret (de_op op_mod d_mod (de_callTy call_int1 d_int (by rfl) T.n_int (by decide +kernel) (da_cons (de_op op_fdivW d_div (dv 6) de_int) da_nil)) (dv 1))))))))
theorem sc_law_items : FnScope ["_law_bag_here", "_law_size", "_law_many", "_law_found", "_law_sums_here", "_law_k", "_law_u", "_law_step", "_law_mode", "_law_v", "_law_number", "_law_pair"] ["_law_bag_here", "_law_size", "_law_many"] (defScope s_law_items) := ⟨rfl, rfl, rfl, by decide +kernel, rfl, by decide +kernel, by decide +kernel⟩
def b_law_items_0 : MS := (sPar [3, 4] (mCons (mAp (oLst true) mNil) (mCons (mDNew true) mNil)))
def b_law_items_1b_0 : MS := (sPar [6, 7, 8] (mCons (mCall m_law_take [] (mCons (mVar 0) (mCons (mVar 1) mNil))) (mCons (mOp oAdd (mC (.int 1)) (mCall m_law_take [] (mCons (mVar 0) (mCons (mOp oSub (mVar 1) (mC (.int 1))) mNil)))) (mCons (mCall m_law_take [] (mCons (mVar 0) (mCons (mC (.int 8)) mNil))) mNil))))
def b_law_items_1b_1 : MS := (sAsg (mOp oMod (mAp oInt (mCons (mOp oAdd (mVar 6) (mVar 7)) mNil)) (mVar 1)) (gN 9))
def b_law_items_1b_2 : MS := (sAsg (mOp oIx (mAp (oLst false) (mCons (mC (.int 0)) (mCons (mC (.int 1)) (mCons (mC (.int 2)) (mCons (mC (.int 3)) (mCons (mC (.int 1)) (mCons (mCall m_law_take [] (mCons (mVar 0) (mCons (mC (.int 20)) mNil))) (mCons (mCall m_law_take [] (mCons (mVar 0) (mCons (mC (.int 1000000001)) mNil))) (mCons (mC (.int 1000000000)) mNil))))))))) (mVar 8)) (gN 10))
def b_law_items_1b_3 : MS := (sAsg (mAp oTup (mCons (mAp oMin2 (mCons (mVar 6) (mCons (mVar 9) mNil))) (mCons (mAp oMax2 (mCons (mVar 6) (mCons (mVar 9) mNil))) mNil))) (gN 11))
def b_law_items_1b_4t_0 : MS := (sPut (mOp oAdd (mDGet (mVar 4) (mVar 11) (mC (.int 0))) (mVar 10)) (mVar 4) (mVar 11))
def b_law_items_1b_4t_1 : MS := (sDrop (mAppend (mVar 3) (mAp oTup (mCons (mVar 6) (mCons (mVar 9) (mCons (mVar 10) mNil))))))
def b_law_items_1b_4 : MS := (sIf (mTst (mOp oLe (mOp oAdd (mDGet (mVar 4) (mVar 11) (mC (.int 0))) (mVar 10)) (mC (.int 1000000000)))) (sSeq b_law_items_1b_4t_0 b_law_items_1b_4t_1) sNext)
def b_law_items_1 : MS := (sFor (mRng1 (mIf (mTst (mOp oGt (mVar 1) (mC (.int 1)))) (mVar 2) (mC (.int 0)))) (Tgt.nm 5).M (sSeq b_law_items_1b_0 (sSeq b_law_items_1b_1 (sSeq b_law_items_1b_2 (sSeq b_law_items_1b_3 b_law_items_1b_4)))))
def b_law_items_2 : MS := (sRet (mVar 3))
def b_law_items : MS := (sSeq b_law_items_0 (sSeq b_law_items_1 b_law_items_2))
def m_law_items : MF := mDef 3 12 b_law_items
theorem e_law_items (x0 x1 x2 : D) (C : Store) : m_law_items [x0, x1, x2] C = finS C.length (b_law_items ⟨C.length, [some x0, some x1, some x2, none, none, none, none, none, none, none, none, none]⟩ C) := mDef_e rfl rfl
theorem ar_law_items : Ar 3 m_law_items := mDef_ar
theorem ok_law_items (T : Txt K mg) : ∃ fd, FnG P w K mg base 2 (a_law_items K) fd ["_law_bag_here", "_law_size", "_law_many"] (SpD (cn K) 3 m_law_items) ∧ Binds K fd ["_law_bag_here", "_law_size", "_law_many"] [] ∧ PySem.W.keepIn K (.ref (a_law_items K)) = true := by
  obtain ⟨fd_law_take, F_law_take, B_law_take, kp_law_take⟩ := ok_law_take (P := P) (w := w) (base := base) T
  obtain ⟨fd, F⟩ := T.f_law_items
  refine ⟨fd, fn_ok (k := cn K) F sc_law_items (by decide) fun cdv A outer s H E hr => ?_, F.bindsN fun _ _ _ _ _ _ us hl => match us, hl with | [_, _, _], _ => rfl, F.kp⟩
  have tk : Takes (cxOf (L2.CX P w) P w K mg base ["_law_bag_here", "_law_size", "_law_many", "_law_found", "_law_sums_here", "_law_k", "_law_u", "_law_step", "_law_mode", "_law_v", "_law_number", "_law_pair"] "_law_items" (defScope s_law_items) (a_law_items K) cdv A outer s H E) (fun c d _ H => E c d H) := takes_of rfl rfl rfl rfl
  exact (dss_cons (ds_par (i := 3) (j := 4) rfl sc_law_items.nd rfl rfl (by decide) rfl rfl (da_cons (de_lst true da_nil) (da_cons (de_dnew true) da_nil)))
  (dss_cons (ds_for (passes_of rfl) rfl (di_rng1 (by rfl) T.n_range (de_if (dt_cmp op_gt d_gt (dv 1) de_int (nomark _)) (dv 2) de_int)) (tg_nm (i := 5) sc_law_items.nd rfl (Or.inl rfl)) (dss_cons (ds_par3 (i := 6) (j := 7) (l := 8) rfl sc_law_items.nd rfl rfl rfl (by decide) (by decide) (by decide) rfl rfl rfl (da_cons (de_call tk F_law_take ar_law_take (hr.mono (by decide)) (by rfl) T.g_law_take kp_law_take B_law_take .nil (fun _ _ _ => .nil) (da_cons (dv 0) (da_cons (dv 1) da_nil))) (da_cons (de_op op_add d_add de_int (de_call tk F_law_take ar_law_take (hr.mono (by decide)) (by rfl) T.g_law_take kp_law_take B_law_take .nil (fun _ _ _ => .nil) (da_cons (dv 0) (da_cons (de_op op_sub d_sub (dv 1) de_int) da_nil)))) (da_cons (de_call tk F_law_take ar_law_take (hr.mono (by decide)) (by rfl) T.g_law_take kp_law_take B_law_take .nil (fun _ _ _ => .nil) (da_cons (dv 0) (da_cons de_int da_nil))) da_nil))))
  (dss_cons (ds_set (i := 9) sc_law_items.nd rfl (Or.inl rfl) (de_op op_mod d_mod (de_callTy call_int1 d_int (by rfl) T.n_int (by decide +kernel) (da_cons (de_op op_add d_add (dv 6) (dv 7)) da_nil)) (dv 1)))
  (dss_cons (ds_set (i := 10) sc_law_items.nd rfl (Or.inl rfl) (de_ix ix_seq d_ix (de_lst false (da_cons de_int (da_cons de_int (da_cons de_int (da_cons de_int (da_cons de_int (da_cons (de_call tk F_law_take ar_law_take (hr.mono (by decide)) (by rfl) T.g_law_take kp_law_take B_law_take .nil (fun _ _ _ => .nil) (da_cons (dv 0) (da_cons de_int da_nil))) (da_cons (de_call tk F_law_take ar_law_take (hr.mono (by decide)) (by rfl) T.g_law_take kp_law_take B_law_take .nil (fun _ _ _ => .nil) (da_cons (dv 0) (da_cons de_int da_nil))) (da_cons de_int da_nil))))))))) (dv 8)))
  (dss_cons (ds_set (i := 11) sc_law_items.nd rfl (Or.inl rfl) (de_tup (da_cons (de_callB (call_min2 rfl) d_min2 (by rfl) T.n_min (by decide +kernel) (da_cons (dv 6) (da_cons (dv 9) da_nil))) (da_cons (de_callB (call_max2 rfl) d_max2 (by rfl) T.n_max (by decide +kernel) (da_cons (dv 6) (da_cons (dv 9) da_nil))) da_nil))))
  (dss_one (ds_if (dt_cmp op_le d_le (de_op op_add d_add (de_dget (hu_of hr.room) (dv 4) (dv 11) de_int) (dv 10)) de_int (nomark _)) (dss_cons (ds_put (hu_of hr.room) (de_op op_add d_add (de_dget (hu_of hr.room) (dv 4) (dv 11) de_int) (dv 10)) (dv 4) (dv 11))
  (dss_one (ds_expr (de_append rfl (dv 3) (de_tup (da_cons (dv 6) (da_cons (dv 9) (da_cons (dv 10) da_nil)))))))) dss_nil)))))))
  (dss_one (ds_ret (dv 3)))))
theorem sc_law_sums : FnScope ["_law_items_here", "_law_sums_here", "_law_u", "_law_v", "_law_number", "_law_pair"] ["_law_items_here"] (defScope s_law_sums) := ⟨rfl, rfl, rfl, by decide +kernel, rfl, by decide +kernel, by decide +kernel⟩
def b_law_sums_0 : MS := (sAsg (mDNew true) (gN 1))
def b_law_sums_1b_0 : MS := (sAsg (mAp oTup (mCons (mAp oMin2 (mCons (mVar 2) (mCons (mVar 3) mNil))) (mCons (mAp oMax2 (mCons (mVar 2) (mCons (mVar 3) mNil))) mNil))) (gN 5))
def b_law_sums_1b_1 : MS := (sPut (mOp oAdd (mDGet (mVar 1) (mVar 5) (mC (.int 0))) (mVar 4)) (mVar 1) (mVar 5))
def b_law_sums_1 : MS := (sFor (mSeq (mVar 0)) (Tgt.tp [2, 3, 4]).M (sSeq b_law_sums_1b_0 b_law_sums_1b_1))
def b_law_sums_2 : MS := (sRet (mVar 1))
def b_law_sums : MS := (sSeq b_law_sums_0 (sSeq b_law_sums_1 b_law_sums_2))
def m_law_sums : MF := mDef 1 6 b_law_sums
theorem e_law_sums (x0 : D) (C : Store) : m_law_sums [x0] C = finS C.length (b_law_sums ⟨C.length, [some x0, none, none, none, none, none]⟩ C) := mDef_e rfl rfl
theorem ar_law_sums : Ar 1 m_law_sums := mDef_ar
theorem ok_law_sums (T : Txt K mg) : ∃ fd, FnG P w K mg base 1 (a_law_sums K) fd ["_law_items_here"] (SpD (cn K) 1 m_law_sums) ∧ Binds K fd ["_law_items_here"] [] ∧ PySem.W.keepIn K (.ref (a_law_sums K)) = true := by
  obtain ⟨fd, F⟩ := T.f_law_sums
  refine ⟨fd, fn_ok (k := cn K) F sc_law_sums (by decide) fun cdv A outer s H E hr => ?_, F.bindsN fun _ _ _ _ _ _ us hl => match us, hl with | [_], _ => rfl, F.kp⟩
  have tk : Takes (cxOf (L2.CX P w) P w K mg base ["_law_items_here", "_law_sums_here", "_law_u", "_law_v", "_law_number", "_law_pair"] "_law_sums" (defScope s_law_sums) (a_law_sums K) cdv A outer s H E) (fun c d _ H => E c d H) := takes_of rfl rfl rfl rfl
  exact (dss_cons (ds_set (i := 1) sc_law_sums.nd rfl (Or.inl rfl) (de_dnew true))
  (dss_cons (ds_for (passes_of rfl) rfl (di_seq rfl (dv 0)) (tg_tp [2, 3, 4] rfl rfl (pgs_cons (pg_name (i := 2) sc_law_sums.nd rfl (Or.inl rfl)) (pgs_cons (pg_name (i := 3) sc_law_sums.nd rfl (Or.inl rfl)) (pgs_cons (pg_name (i := 4) sc_law_sums.nd rfl (Or.inl rfl)) pgs_nil)))) (dss_cons (ds_set (i := 5) sc_law_sums.nd rfl (Or.inl rfl) (de_tup (da_cons (de_callB (call_min2 rfl) d_min2 (by rfl) T.n_min (by decide +kernel) (da_cons (dv 2) (da_cons (dv 3) da_nil))) (da_cons (de_callB (call_max2 rfl) d_max2 (by rfl) T.n_max (by decide +kernel) (da_cons (dv 2) (da_cons (dv 3) da_nil))) da_nil))))
  (dss_one (ds_put (hu_of hr.room) (de_op op_add d_add (de_dget (hu_of hr.room) (dv 1) (dv 5) de_int) (dv 4)) (dv 1) (dv 5)))))
  (dss_one (ds_ret (dv 1)))))
theorem sc_law_web_is : FnScope ["_law_web", "_law_size", "_law_sums_here", "_law_due_here", "_law_degrees", "_law_u", "_law_v", "_law_number", "_law_told"] ["_law_web", "_law_size", "_law_sums_here"] (defScope s_law_web_is) := ⟨rfl, rfl, rfl, by decide +kernel, rfl, by decide +kernel, by decide +kernel⟩
def b_law_web_is_0 : MS := (sIf (tNotM (mTst (mIsi [0] (.own 0) (mVar 0)))) (sRet (mC (.bl false))) sNext)
def b_law_web_is_1 : MS := (sPar [3, 4] (mCons (mAp oTupOf (mCons (mLc false (mSeq (mAp (oSortD false) (mCons (mVar 2) mNil))) (Tgt.tp [5, 6]).M (mTst (mOp oGt (mOp oDIx (mVar 2) (mAp oTup (mCons (mVar 5) (mCons (mVar 6) mNil)))) (mC (.int 0)))) (mAp oTup (mCons (mVar 5) (mCons (mVar 6) (mCons (mOp oDIx (mVar 2) (mAp oTup (mCons (mVar 5) (mCons (mVar 6) mNil)))) mNil)))) [5, 6]) mNil)) (mCons (mOp (oRep true) (mAp (oLst false) (mCons (mC (.int 0)) mNil)) (mVar 1)) mNil)))
def b_law_web_is_2b_0 : MS := (sAugL (· + ·) (mVar 4) (mVar 5) (mVar 7))
def b_law_web_is_2b_1 : MS := (sAugL (· + ·) (mVar 4) (mVar 6) (mVar 7))
def b_law_web_is_2 : MS := (sFor (mSeq (mVar 3)) (Tgt.tp [5, 6, 7]).M (sSeq b_law_web_is_2b_0 b_law_web_is_2b_1))
def b_law_web_is_3 : MS := (sAsg (mAp (oLst false) (mCons (mUn (oFld 0 0) (mVar 0)) (mCons (mUn (oFld 0 2) (mVar 0)) (mCons (mProp 0 m_Web_total (mVar 0)) (mCons (mProp 0 m_Web_degrees (mVar 0)) mNil))))) (gN 8))
def b_law_web_is_4 : MS := (sRet (mOp (oEqA false) (mAp oRepr (mCons (mVar 8) mNil)) (mAp oRepr (mCons (mAp (oLst false) (mCons (mVar 1) (mCons (mVar 3) (mCons (mOp oDiv (mAp oSum (mCons (mVar 4) mNil)) (mC (.int 2))) (mCons (mAp oTupOf (mCons (mVar 4) mNil)) mNil))))) mNil))))
def b_law_web_is : MS := (sSeq b_law_web_is_0 (sSeq b_law_web_is_1 (sSeq b_law_web_is_2 (sSeq b_law_web_is_3 b_law_web_is_4))))
def m_law_web_is : MF := mDef 3 9 b_law_web_is
theorem e_law_web_is (x0 x1 x2 : D) (C : Store) : m_law_web_is [x0, x1, x2] C = finS C.length (b_law_web_is ⟨C.length, [some x0, some x1, some x2, none, none, none, none, none, none]⟩ C) := mDef_e rfl rfl
theorem ar_law_web_is : Ar 3 m_law_web_is := mDef_ar
theorem ok_law_web_is (T : Txt K mg) : ∃ fd, FnG P w K mg base 3 (a_law_web_is K) fd ["_law_web", "_law_size", "_law_sums_here"] (SpD (cn K) 3 m_law_web_is) ∧ Binds K fd ["_law_web", "_law_size", "_law_sums_here"] [] ∧ PySem.W.keepIn K (.ref (a_law_web_is K)) = true := by
  obtain ⟨fd_Web_degrees, F_Web_degrees, B_Web_degrees, kp_Web_degrees⟩ := ok_Web_degrees (P := P) (w := w) (base := base) T
  obtain ⟨fd_Web_total, F_Web_total, B_Web_total, kp_Web_total⟩ := ok_Web_total (P := P) (w := w) (base := base) T
  obtain ⟨fd, F⟩ := T.f_law_web_is
  refine ⟨fd, fn_ok (k := cn K) F sc_law_web_is (by decide) fun cdv A outer s H E hr => ?_, F.bindsN fun _ _ _ _ _ _ us hl => match us, hl with | [_, _, _], _ => rfl, F.kp⟩
  have tk : Takes (cxOf (L2.CX P w) P w K mg base ["_law_web", "_law_size", "_law_sums_here", "_law_due_here", "_law_degrees", "_law_u", "_law_v", "_law_number", "_law_told"] "_law_web_is" (defScope s_law_web_is) (a_law_web_is K) cdv A outer s H E) (fun c d _ H => E c d H) := takes_of rfl rfl rfl rfl
  exact (dss_cons (ds_if (dt_not (dt_val (de_isi (by rfl) T.n_isinstance T.isa rfl rfl (dv 0) (pe_glob (by rfl) T.g_Web rfl)))) (dss_one (ds_ret de_bl)) dss_nil)
  (dss_cons (ds_par (i := 3) (j := 4) rfl sc_law_web_is.nd rfl rfl (by decide) rfl rfl (da_cons (de_callTy call_tuple_of d_tupOf (by rfl) T.n_tuple (by decide +kernel) (da_cons (de_lc (own := [("_law_u", 5), ("_law_v", 6)]) false rfl rfl sc_law_web_is.nd (di_seq rfl (de_callB (cr_sortT rfl hr.u200) d_sortD (by rfl) T.n_sorted (by decide +kernel) (da_cons (dv 2) da_nil))) (blkOk_by (own := [("_law_u", 5), ("_law_v", 6)]) rfl) (by decide) (fun _ _ _ _ _ => (tg_tp [5, 6] rfl rfl (pgs_cons (pg_name (i := 5) sc_law_web_is.nd rfl (by first | exact Or.inl rfl | exact Or.inr rfl)) (pgs_cons (pg_name (i := 6) sc_law_web_is.nd rfl (by first | exact Or.inl rfl | exact Or.inr rfl)) pgs_nil)))) (fun _ _ _ _ _ => (pts_one (dt_cmp op_gt d_gt (de_dix (hu_of hr.room) (dv 2) (de_tup (da_cons (dv 5) (da_cons (dv 6) da_nil)))) de_int (nomark _)))) (fun _ _ _ _ _ => (de_tup (da_cons (dv 5) (da_cons (dv 6) (da_cons (de_dix (hu_of hr.room) (dv 2) (de_tup (da_cons (dv 5) (da_cons (dv 6) da_nil)))) da_nil)))))) da_nil)) (da_cons (de_op op_rep (d_rep true) (de_lst false (da_cons de_int da_nil)) (dv 1)) da_nil)))
  (dss_cons (ds_for (passes_of rfl) rfl (di_seq rfl (dv 3)) (tg_tp [5, 6, 7] rfl rfl (pgs_cons (pg_name (i := 5) sc_law_web_is.nd rfl (Or.inl rfl)) (pgs_cons (pg_name (i := 6) sc_law_web_is.nd rfl (Or.inl rfl)) (pgs_cons (pg_name (i := 7) sc_law_web_is.nd rfl (Or.inl rfl)) pgs_nil)))) (dss_cons (ds_augL ip_add (dv 4) (dv 5) (dv 7))
  (dss_one (ds_augL ip_add (dv 4) (dv 6) (dv 7)))))
  (dss_cons (ds_set (i := 8) sc_law_web_is.nd rfl (Or.inl rfl) (de_lst false (da_cons (de_fld 0 0 rfl T.cl_Web T.no_Web_size nd_Web rfl (dv 0)) (da_cons (de_fld 0 2 rfl T.cl_Web T.no_Web_ties nd_Web rfl (dv 0)) (da_cons (de_prop 0 rfl (dv 0) T.cl_Web T.pr_total F_Web_total ar_Web_total (hr.mono (by decide)) B_Web_total) (da_cons (de_prop 0 rfl (dv 0) T.cl_Web T.pr_degrees F_Web_degrees ar_Web_degrees (hr.mono (by decide)) B_Web_degrees) da_nil))))))
  (dss_one (ds_ret (de_cmp (op_eq.or (op_eqD hr.room.units)) d_eqA (de_callB (call_reprD (hr.mono (by decide))) d_repr (by rfl) T.n_repr (by decide +kernel) (da_cons (dv 8) da_nil)) (de_callB (call_reprD (hr.mono (by decide))) d_repr (by rfl) T.n_repr (by decide +kernel) (da_cons (de_lst false (da_cons (dv 1) (da_cons (dv 3) (da_cons (de_op op_fdivW d_div (de_callB (cr_sum rfl) d_sum (by rfl) T.n_sum (by decide +kernel) (da_cons (dv 4) da_nil)) de_int) (da_cons (de_callTy call_tuple_of d_tupOf (by rfl) T.n_tuple (by decide +kernel) (da_cons (dv 4) da_nil)) da_nil))))) da_nil)) (nomark _))))))))
theorem sc_law_done : FnScope ["_law_mode", "_law_one_here", "_law_other", "_law_k", "e", "_law_flags"] ["_law_mode", "_law_one_here", "_law_other", "_law_k"] (defScope s_law_done) := ⟨rfl, rfl, rfl, by decide +kernel, rfl, by decide +kernel, by decide +kernel⟩
def b_law_donet_0 : MS := (sIf (mTst (mOp (oEqA false) (mVar 0) (mC (.int 0)))) (sRet (mAp oTup (mCons (mC (.str "web")) (mCons (mBinO 0 m_Web__add (mVar 1) (mVar 2)) mNil)))) sNext)
def b_law_donet_1 : MS := (sIf (mTst (mOp (oEqA false) (mVar 0) (mC (.int 1)))) (sRet (mAp oTup (mCons (mC (.str "web")) (mCons (mBinO 0 m_Web__sub (mVar 1) (mVar 2)) mNil)))) sNext)
def b_law_donet_2 : MS := (sIf (mTst (mOp (oEqA false) (mVar 0) (mC (.int 2)))) (sRet (mAp oTup (mCons (mC (.str "web")) (mCons (mMulR 0 m_Web__mul (mVar 1) (mVar 3)) mNil)))) sNext)
def b_law_donet_3 : MS := (sRet (mAp oTup (mCons (mC (.str "web")) (mCons (mMulL 0 m_Web__rmul (mVar 3) (mVar 1)) mNil))))
def b_law_donex_0 : MS := (sAsg (mAp (oLst false) (mCons (mUn (oIsX [2, 3, 4] 4) (mVar 4)) (mCons (mUn (oIsX [2, 3, 4] 2) (mVar 4)) (mCons (mUn (oIsX [2, 3, 4] 3) (mVar 4)) mNil)))) (gN 5))
def b_law_donex_1 : MS := (sIf (mTst (mOp (oEqA true) (mCount (mVar 5) (mC (.bl true))) (mC (.int 1)))) (sRet (mAp oTup (mCons (mC (.str "other")) (mCons (mC .non) mNil)))) sNext)
def b_law_donex_2 : MS := (sIf (mTst (mOp oIx (mVar 5) (mC (.int 0)))) (sRet (mAp oTup (mCons (mC (.str "unequal")) (mCons (mAp oTup (mCons (mUn (oXf 4 1) (mVar 4)) (mCons (mUn (oXf 4 0) (mVar 4)) mNil))) mNil)))) sNext)
def b_law_donex_3 : MS := (sRet (mIf (mTst (mOp oIx (mVar 5) (mC (.int 1)))) (mAp oTup (mCons (mC (.str "many")) (mCons (mUn (oXf 2 0) (mVar 4)) mNil))) (mAp oTup (mCons (mC (.str "few")) (mCons (mUn (oXf 3 0) (mVar 4)) mNil)))))
def b_law_donet_ : MS := (sSeq b_law_donet_0 (sSeq b_law_donet_1 (sSeq b_law_donet_2 b_law_donet_3)))
def b_law_donex_ : MS := (sSeq b_law_donex_0 (sSeq b_law_donex_1 (sSeq b_law_donex_2 b_law_donex_3)))
def b_law_done : MS := (sTry 4 [2, 3, 4] [] b_law_donet_ b_law_donex_)
def m_law_done : MF := mDef 4 6 b_law_done
theorem e_law_done (x0 x1 x2 x3 : D) (C : Store) : m_law_done [x0, x1, x2, x3] C = finS C.length (b_law_done ⟨C.length, [some x0, some x1, some x2, some x3, none, none]⟩ C) := mDef_e rfl rfl
theorem ar_law_done : Ar 4 m_law_done := mDef_ar
theorem ok_law_done (T : Txt K mg) : ∃ fd, FnG P w K mg base 8 (a_law_done K) fd ["_law_mode", "_law_one_here", "_law_other", "_law_k"] (SpD (cn K) 4 m_law_done) ∧ Binds K fd ["_law_mode", "_law_one_here", "_law_other", "_law_k"] [] ∧ PySem.W.keepIn K (.ref (a_law_done K)) = true := by
  obtain ⟨fd_Web__add, F_Web__add, B_Web__add, kp_Web__add⟩ := ok_Web__add (P := P) (w := w) (base := base) T
  obtain ⟨fd_Web__sub, F_Web__sub, B_Web__sub, kp_Web__sub⟩ := ok_Web__sub (P := P) (w := w) (base := base) T
  obtain ⟨fd_Web__mul, F_Web__mul, B_Web__mul, kp_Web__mul⟩ := ok_Web__mul (P := P) (w := w) (base := base) T
  obtain ⟨fd_Web__rmul, F_Web__rmul, B_Web__rmul, kp_Web__rmul⟩ := ok_Web__rmul (P := P) (w := w) (base := base) T
  obtain ⟨fd, F⟩ := T.f_law_done
  refine ⟨fd, fn_ok (k := cn K) F sc_law_done (by decide) fun cdv A outer s H E hr => ?_, F.bindsN fun _ _ _ _ _ _ us hl => match us, hl with | [_, _, _, _], _ => rfl, F.kp⟩
  have tk : Takes (cxOf (L2.CX P w) P w K mg base ["_law_mode", "_law_one_here", "_law_other", "_law_k", "e", "_law_flags"] "_law_done" (defScope s_law_done) (a_law_done K) cdv A outer s H E) (fun c d _ H => E c d H) := takes_of rfl rfl rfl rfl
  exact (dss_one (ds_try (i := 4) (cs := [2, 3, 4]) (ds := []) rfl rfl sc_law_done.nd rfl rfl ⟨by rfl, by decide, .inl T.g_ContentError⟩ tk rfl rfl T.exm_ContentError.yes T.exm_ContentError.no
  (fun W pn xe tk1 po1 => (dss_cons (ds_if (dt_cmp (op_eq.or (op_eqD hr.room.units)) d_eqA (dv 0) de_int (nomark _)) (dss_one (ds_ret (de_tup (da_cons de_str (da_cons (de_binO 0 tk1 rfl (dv 1) (dv 2) T.sf_Web T.dn_Web__add.at_ T.dn_Web__add.fn F_Web__add ar_Web__add (hr.mono (by decide)) B_Web__add) da_nil))))) dss_nil)
  (dss_cons (ds_if (dt_cmp (op_eq.or (op_eqD hr.room.units)) d_eqA (dv 0) de_int (nomark _)) (dss_one (ds_ret (de_tup (da_cons de_str (da_cons (de_binO 0 tk1 rfl (dv 1) (dv 2) T.sf_Web T.dn_Web__sub.at_ T.dn_Web__sub.fn F_Web__sub ar_Web__sub (hr.mono (by decide)) B_Web__sub) da_nil))))) dss_nil)
  (dss_cons (ds_if (dt_cmp (op_eq.or (op_eqD hr.room.units)) d_eqA (dv 0) de_int (nomark _)) (dss_one (ds_ret (de_tup (da_cons de_str (da_cons (de_mulR 0 tk1 rfl (dv 1) (dv 3) T.mu_Web F_Web__mul ar_Web__mul (hr.mono (by decide)) B_Web__mul) da_nil))))) dss_nil)
  (dss_one (ds_ret (de_tup (da_cons de_str (da_cons (de_mulL 0 tk1 rfl (dv 3) (dv 1) T.mu_Web F_Web__rmul ar_Web__rmul (hr.mono (by decide)) B_Web__rmul) da_nil)))))))))
  (fun a oe c dd pn hcc hz hv => (dss_cons (ds_set (i := 5) sc_law_done.nd rfl (Or.inl rfl) (de_lst false (da_cons (de_isX 4 rfl (by rfl) T.n_isinstance T.xs hcc hz hv (dv 4) (pe_glob (by rfl) T.g_Unequal rfl)) (da_cons (de_isX 2 rfl (by rfl) T.n_isinstance T.xs hcc hz hv (dv 4) (pe_glob (by rfl) T.g_TooMany rfl)) (da_cons (de_isX 3 rfl (by rfl) T.n_isinstance T.xs hcc hz hv (dv 4) (pe_glob (by rfl) T.g_TooFew rfl)) da_nil)))))
  (dss_cons (ds_if (dt_cmp (op_ne.or (op_neD hr.room.units)) d_neA (de_count hr.u65 rfl (dv 5) de_bl) de_int (nomark _)) (dss_one (ds_ret (de_tup (da_cons de_str (da_cons de_non da_nil))))) dss_nil)
  (dss_cons (ds_if (dt_val (de_ix ix_seq d_ix (dv 5) de_int)) (dss_one (ds_ret (de_tup (da_cons de_str (da_cons (de_tup (da_cons (de_xf 4 1 rfl (T.xs.exc 4 (by decide)).xf T.nox_Unequal_one nd_Unequal rfl hz hv (dv 4)) (da_cons (de_xf 4 0 rfl (T.xs.exc 4 (by decide)).xf T.nox_Unequal_other nd_Unequal rfl hz hv (dv 4)) da_nil))) da_nil))))) dss_nil)
  (dss_one (ds_ret (de_if (dt_val (de_ix ix_seq d_ix (dv 5) de_int)) (de_tup (da_cons de_str (da_cons (de_xf 2 0 rfl (T.xs.exc 2 (by decide)).xf T.nox_TooMany_limit nd_TooMany rfl hz hv (dv 4)) da_nil))) (de_tup (da_cons de_str (da_cons (de_xf 3 0 rfl (T.xs.exc 3 (by decide)).xf T.nox_TooFew_pair nd_TooFew rfl hz hv (dv 4)) da_nil))))))))))))
theorem sc_law_due : FnScope ["_law_first", "_law_second", "_law_times", "_law_sums_here", "_law_pair", "_law_bad"] ["_law_first", "_law_second", "_law_times"] (defScope s_law_due) := ⟨rfl, rfl, rfl, by decide +kernel, rfl, by decide +kernel, by decide +kernel⟩
def b_law_due_0 : MS := (sAsg (mDNew true) (gN 3))
def b_law_due_1b_0 : MS := (sPut (mOp oAdd (mDGet (mVar 0) (mVar 4) (mC (.int 0))) (mOp oMul (mVar 2) (mDGet (mVar 1) (mVar 4) (mC (.int 0))))) (mVar 3) (mVar 4))
def b_law_due_1 : MS := (sFor (mSeq (mAp (oSortST false) (mCons (mOp (oCat false) (mAp (oListOfD false) (mCons (mVar 0) mNil)) (mAp (oListOfD false) (mCons (mVar 1) mNil))) mNil))) (Tgt.nm 4).M b_law_due_1b_0)
def b_law_due_2 : MS := (sAsg (mLc false (mSeq (mAp (oSortD false) (mCons (mVar 3) mNil))) (Tgt.nm 4).M (tOrM (mTst (mOp oLt (mOp oDIx (mVar 3) (mVar 4)) (mC (.int 0)))) (mTst (mOp oGt (mOp oDIx (mVar 3) (mVar 4)) (mC (.int 1000000000))))) (mVar 4) [4]) (gN 5))
def b_law_due_3 : MS := (sRet (mAp oTup (mCons (mVar 3) (mCons (mVar 5) mNil))))
def b_law_due : MS := (sSeq b_law_due_0 (sSeq b_law_due_1 (sSeq b_law_due_2 b_law_due_3)))
def m_law_due : MF := mDefN 3 6 b_law_due
theorem e_law_due (x0 x1 x2 : D) (C : Store) : m_law_due [x0, x1, x2] C = finNS C.length (b_law_due ⟨C.length, [some x0, some x1, some x2, none, none, none]⟩ C) := mDefN_e rfl rfl
theorem ar_law_due : Ar 3 m_law_due := mDefN_ar
theorem ok_law_due (T : Txt K mg) : ∃ fd, FnG P w K mg base 1 (a_law_due K) fd ["_law_first", "_law_second", "_law_times"] (SpD (cn K) 3 m_law_due) ∧ Binds K fd ["_law_first", "_law_second", "_law_times"] [] ∧ PySem.W.keepIn K (.ref (a_law_due K)) = true := by
  obtain ⟨fd, F⟩ := T.f_law_due
  refine ⟨fd, fn_okN (k := cn K) F sc_law_due (by decide) fun cdv A outer s H E hr => ?_, F.bindsN fun _ _ _ _ _ _ us hl => match us, hl with | [_, _, _], _ => rfl, F.kp⟩
  have tk : Takes (cxOf (L2.CX P w) P w K mg base ["_law_first", "_law_second", "_law_times", "_law_sums_here", "_law_pair", "_law_bad"] "_law_due" (defScope s_law_due) (a_law_due K) cdv A outer s H E) (fun c d _ H => E c d H) := takes_of rfl rfl rfl rfl
  exact (dss_cons (ds_set (i := 3) sc_law_due.nd rfl (Or.inr rfl) (de_dnew true))
  (dss_cons (ds_for (passes_of rfl) rfl (di_seq rfl (de_sortST false rfl rfl (Nat.lt_of_succ_lt hr.u65) (by rfl) T.n_sorted (by rfl) T.n_set (da_cons (de_op op_cat (d_cat false) (de_callTy (call_list_dT rfl) (d_listOfD false) (by rfl) T.n_list (by decide +kernel) (da_cons (dv 0) da_nil)) (de_callTy (call_list_dT rfl) (d_listOfD false) (by rfl) T.n_list (by decide +kernel) (da_cons (dv 1) da_nil))) da_nil))) (tg_nm (i := 4) sc_law_due.nd rfl (Or.inl rfl)) (dss_one (ds_put (hu_of hr.room) (de_op op_add d_add (de_dget (hu_of hr.room) (dv 0) (dv 4) de_int) (de_op op_mul d_mul (dv 2) (de_dget (hu_of hr.room) (dv 1) (dv 4) de_int))) (dv 3) (dv 4))))
  (dss_cons (ds_setLc (i := 5) (own := [("_law_pair", 4)]) false rfl rfl sc_law_due.nd rfl rfl (sw_true rfl rfl rfl (by decide +kernel)) (di_seq rfl (de_callB (cr_sortT rfl hr.u200) d_sortD (by rfl) T.n_sorted (by decide +kernel) (da_cons (dv 3) da_nil))) (blkOk_by (own := [("_law_pair", 4)]) rfl) (by decide) (fun _ _ _ _ _ => (tg_nm (i := 4) sc_law_due.nd rfl (by first | exact Or.inl rfl | exact Or.inr rfl))) (fun _ _ _ _ _ => (pts_one (PW.pt (dw_or (dt_cmp op_lt d_lt (de_dix (hu_of hr.room) (dv 3) (dv 4)) de_int (nomark _)) (dw_or1 (dt_cmp op_gt d_gt (de_dix (hu_of hr.room) (dv 3) (dv 4)) de_int (nomark _))))))) (fun _ _ _ _ _ => (dv 4)))
  (dss_one (ds_ret (de_tup (da_cons (dv 3) (da_cons (dv 5) da_nil))))))))
theorem sc_law_right : FnScope ["_law_mode", "_law_one_here", "_law_other", "_law_sizes", "_law_sums_here", "_law_k", "_law_told", "_law_due_here", "_law_bad"] ["_law_mode", "_law_one_here", "_law_other", "_law_sizes", "_law_sums_here", "_law_k"] (defScope s_law_right) := ⟨rfl, rfl, rfl, by decide +kernel, rfl, by decide +kernel, by decide +kernel⟩
def b_law_right_0 : MS := (sAsg (mCall m_law_done [] (mCons (mVar 0) (mCons (mVar 1) (mCons (mVar 2) (mCons (mVar 5) mNil))))) (gN 6))
def b_law_right_1 : MS := (sIf (tAndM (mTst (mOp oLt (mVar 0) (mC (.int 2)))) (mTst (mOp (oEqA true) (mOp oIx (mVar 3) (mC (.int 0))) (mOp oIx (mVar 3) (mC (.int 1)))))) (sRet (mOp (oEqA false) (mAp oRepr (mCons (mVar 6) mNil)) (mAp oRepr (mCons (mAp oTup (mCons (mC (.str "unequal")) (mCons (mAp oTup (mCons (mOp oIx (mVar 3) (mC (.int 0))) (mCons (mOp oIx (mVar 3) (mC (.int 1))) mNil))) mNil))) mNil)))) sNext)
def b_law_right_2 : MS := (sIf (mTst (mOp oLt (mVar 0) (mC (.int 2)))) (sAsg (mCall m_law_due [] (mCons (mOp oIx (mVar 4) (mC (.int 0))) (mCons (mOp oIx (mVar 4) (mC (.int 1))) (mCons (mOp oSub (mC (.int 1)) (mOp oMul (mC (.int 2)) (mVar 0))) mNil)))) (Tgt.tp [7, 8]).M) (sAsg (mCall m_law_due [] (mCons (mDNew false) (mCons (mOp oIx (mVar 4) (mC (.int 0))) (mCons (mVar 5) mNil)))) (Tgt.tp [7, 8]).M))
def b_law_right_3 : MS := (sIf (tAndM (mTst (mOp (oEqA true) (mVar 8) (mAp (oLst false) mNil))) (mTst (mOp (oEqA false) (mVar 0) (mC (.int 1))))) (sRet (mOp (oEqA false) (mAp oRepr (mCons (mVar 6) mNil)) (mAp oRepr (mCons (mAp oTup (mCons (mC (.str "few")) (mCons (mOp oIx (mVar 8) (mC (.int 0))) mNil))) mNil)))) sNext)
def b_law_right_4 : MS := (sIf (mTst (mOp (oEqA true) (mVar 8) (mAp (oLst false) mNil))) (sRet (mOp (oEqA false) (mAp oRepr (mCons (mVar 6) mNil)) (mAp oRepr (mCons (mAp oTup (mCons (mC (.str "many")) (mCons (mC (.int 1000000000)) mNil))) mNil)))) sNext)
def b_law_right_5 : MS := (sRet (mAnd (mOp (oEqA false) (mOp oIx (mVar 6) (mC (.int 0))) (mC (.str "web"))) (mCall m_law_web_is [] (mCons (mOp oIx (mVar 6) (mC (.int 1))) (mCons (mOp oIx (mVar 3) (mC (.int 0))) (mCons (mVar 7) mNil))))))
def b_law_right : MS := (sSeq b_law_right_0 (sSeq b_law_right_1 (sSeq b_law_right_2 (sSeq b_law_right_3 (sSeq b_law_right_4 b_law_right_5)))))
def m_law_right : MF := mDef 6 9 b_law_right
theorem e_law_right (x0 x1 x2 x3 x4 x5 : D) (C : Store) : m_law_right [x0, x1, x2, x3, x4, x5] C = finS C.length (b_law_right ⟨C.length, [some x0, some x1, some x2, some x3, some x4, some x5, none, none, none]⟩ C) := mDef_e rfl rfl
theorem ar_law_right : Ar 6 m_law_right := mDef_ar
theorem ok_law_right (T : Txt K mg) : ∃ fd, FnG P w K mg base 9 (a_law_right K) fd ["_law_mode", "_law_one_here", "_law_other", "_law_sizes", "_law_sums_here", "_law_k"] (SpD (cn K) 6 m_law_right) ∧ Binds K fd ["_law_mode", "_law_one_here", "_law_other", "_law_sizes", "_law_sums_here", "_law_k"] [] ∧ PySem.W.keepIn K (.ref (a_law_right K)) = true := by
  obtain ⟨fd_law_done, F_law_done, B_law_done, kp_law_done⟩ := ok_law_done (P := P) (w := w) (base := base) T
  obtain ⟨fd_law_due, F_law_due, B_law_due, kp_law_due⟩ := ok_law_due (P := P) (w := w) (base := base) T
  obtain ⟨fd_law_web_is, F_law_web_is, B_law_web_is, kp_law_web_is⟩ := ok_law_web_is (P := P) (w := w) (base := base) T
  obtain ⟨fd, F⟩ := T.f_law_right
  refine ⟨fd, fn_ok (k := cn K) F sc_law_right (by decide) fun cdv A outer s H E hr => ?_, F.bindsN fun _ _ _ _ _ _ us hl => match us, hl with | [_, _, _, _, _, _], _ => rfl, F.kp⟩
  have tk : Takes (cxOf (L2.CX P w) P w K mg base ["_law_mode", "_law_one_here", "_law_other", "_law_sizes", "_law_sums_here", "_law_k", "_law_told", "_law_due_here", "_law_bad"] "_law_right" (defScope s_law_right) (a_law_right K) cdv A outer s H E) (fun c d _ H => E c d H) := takes_of rfl rfl rfl rfl
  exact (dss_cons (ds_set (i := 6) sc_law_right.nd rfl (Or.inl rfl) (de_call tk F_law_done ar_law_done (hr.mono (by decide)) (by rfl) T.g_law_done kp_law_done B_law_done .nil (fun _ _ _ => .nil) (da_cons (dv 0) (da_cons (dv 1) (da_cons (dv 2) (da_cons (dv 5) da_nil))))))
  (dss_cons (ds_if (PW.pt (dw_and (dt_cmp op_lt d_lt (dv 0) de_int (nomark _)) (dw_and1 (dt_cmp (op_ne.or (op_neD hr.room.units)) d_neA (de_ix ix_seq d_ix (dv 3) de_int) (de_ix ix_seq d_ix (dv 3) de_int) (nomark _))))) (dss_one (ds_ret (de_cmp (op_eq.or (op_eqD hr.room.units)) d_eqA (de_callB (call_reprD (hr.mono (by decide))) d_repr (by rfl) T.n_repr (by decide +kernel) (da_cons (dv 6) da_nil)) (de_callB (call_reprD (hr.mono (by decide))) d_repr (by rfl) T.n_repr (by decide +kernel) (da_cons (de_tup (da_cons de_str (da_cons (de_tup (da_cons (de_ix ix_seq d_ix (dv 3) de_int) (da_cons (de_ix ix_seq d_ix (dv 3) de_int) da_nil))) da_nil))) da_nil)) (nomark _)))) dss_nil)
  (dss_cons (ds_if (dt_cmp op_lt d_lt (dv 0) de_int (nomark _)) (dss_one (ds_asgT (de_call tk F_law_due ar_law_due (hr.mono (by decide)) (by rfl) T.g_law_due kp_law_due B_law_due .nil (fun _ _ _ => .nil) (da_cons (de_ix ix_seq d_ix (dv 4) de_int) (da_cons (de_ix ix_seq d_ix (dv 4) de_int) (da_cons (de_op op_sub d_sub de_int (de_op op_mul d_mul de_int (dv 0))) da_nil)))) (tg_tp [7, 8] rfl rfl (pgs_cons (pg_name (i := 7) sc_law_right.nd rfl (Or.inl rfl)) (pgs_cons (pg_name (i := 8) sc_law_right.nd rfl (Or.inl rfl)) pgs_nil))))) (dss_one (ds_asgT (de_call tk F_law_due ar_law_due (hr.mono (by decide)) (by rfl) T.g_law_due kp_law_due B_law_due .nil (fun _ _ _ => .nil) (da_cons (de_dnew false) (da_cons (de_ix ix_seq d_ix (dv 4) de_int) (da_cons (dv 5) da_nil)))) (tg_tp [7, 8] rfl rfl (pgs_cons (pg_name (i := 7) sc_law_right.nd rfl (Or.inl rfl)) (pgs_cons (pg_name (i := 8) sc_law_right.nd rfl (Or.inl rfl)) pgs_nil))))))
  (dss_cons (ds_if (PW.pt (dw_and (dt_cmp (op_ne.or (op_neD hr.room.units)) d_neA (dv 8) (de_lst false da_nil) (nomark _)) (dw_and1 (dt_cmp (op_eq.or (op_eqD hr.room.units)) d_eqA (dv 0) de_int (nomark _))))) (dss_one (ds_ret (de_cmp (op_eq.or (op_eqD hr.room.units)) d_eqA (de_callB (call_reprD (hr.mono (by decide))) d_repr (by rfl) T.n_repr (by decide +kernel) (da_cons (dv 6) da_nil)) (de_callB (call_reprD (hr.mono (by decide))) d_repr (by rfl) T.n_repr (by decide +kernel) (da_cons (de_tup (da_cons de_str (da_cons (de_ix ix_seq d_ix (dv 8) de_int) da_nil))) da_nil)) (nomark _)))) dss_nil)
  (dss_cons (ds_if (dt_cmp (op_ne.or (op_neD hr.room.units)) d_neA (dv 8) (de_lst false da_nil) (nomark _)) (dss_one (ds_ret (de_cmp (op_eq.or (op_eqD hr.room.units)) d_eqA (de_callB (call_reprD (hr.mono (by decide))) d_repr (by rfl) T.n_repr (by decide +kernel) (da_cons (dv 6) da_nil)) (de_callB (call_reprD (hr.mono (by decide))) d_repr (by rfl) T.n_repr (by decide +kernel) (da_cons (de_tup (da_cons de_str (da_cons de_int da_nil))) da_nil)) (nomark _)))) dss_nil)
  (dss_one (ds_ret (de_and (de_cmp (op_eq.or (op_eqD hr.room.units)) d_eqA (de_ix ix_seq d_ix (dv 6) de_int) de_str (nomark _)) (de_one (de_call tk F_law_web_is ar_law_web_is (hr.mono (by decide)) (by rfl) T.g_law_web_is kp_law_web_is B_law_web_is .nil (fun _ _ _ => .nil) (da_cons (de_ix ix_seq d_ix (dv 6) de_int) (da_cons (de_ix ix_seq d_ix (dv 3) de_int) (da_cons (dv 7) da_nil)))))))))))))
theorem sc_law : FnScope ["_law_script", "_law_bag_here", "_law_trip", "_law_sizes", "_law_items_here", "_law_sums_here", "_law_one_here", "_law_other", "_law_menu", "_law_k", "_law_mode", "_law_size", "_law_item", "_law_part"] ["_law_script"] (defScope s_law) := ⟨rfl, rfl, rfl, by decide +kernel, rfl, by decide +kernel, by decide +kernel⟩
def b_law_0 : MS := (sAsg (mCall m_law_bag [] (mCons (mVar 0) mNil)) (gN 1))
def b_law_1b_0 : MS := (sAsg (mAp (oLst true) (mCons (mCall m_law_take [] (mCons (mVar 1) (mCons (mC (.int 6)) mNil))) (mCons (mC (.int 0)) mNil))) (gN 3))
def b_law_1b_1 : MS := (sSetL (mIf (mTst (mOp oGt (mCall m_law_take [] (mCons (mVar 1) (mCons (mC (.int 4)) mNil))) (mC (.int 0)))) (mOp oIx (mVar 3) (mC (.int 0))) (mCall m_law_take [] (mCons (mVar 1) (mCons (mC (.int 6)) mNil)))) (mVar 3) (mC (.int 1)))
def b_law_1b_2 : MS := (sAsg (mLc true (mSeq (mVar 3)) (Tgt.nm 11).M tYesM (mCall m_law_items [] (mCons (mVar 1) (mCons (mVar 11) (mCons (mCall m_law_take [] (mCons (mVar 1) (mCons (mC (.int 9)) mNil))) mNil)))) [11]) (gN 4))
def b_law_1b_3 : MS := (sIf (tAndM (mTst (mOp (oEqA false) (mOp oIx (mVar 3) (mC (.int 0))) (mOp oIx (mVar 3) (mC (.int 1))))) (mTst (mOp (oEqA false) (mCall m_law_take [] (mCons (mVar 1) (mCons (mC (.int 2)) mNil))) (mC (.int 0))))) (sSetL (mLc false (mSeq (mOp oIx (mVar 4) (mC (.int 0)))) (Tgt.nm 12).M (mTst (mOp oGt (mCall m_law_take [] (mCons (mVar 1) (mCons (mC (.int 3)) mNil))) (mC (.int 0)))) (mVar 12) [12]) (mVar 4) (mC (.int 1))) sNext)
def b_law_1b_4 : MS := (sAsg (mLc false (mSeq (mVar 4)) (Tgt.nm 13).M tYesM (mCall m_law_sums [] (mCons (mVar 13) mNil)) [13]) (gN 5))
def b_law_1b_5 : MS := (sPar [6, 7] (mCons (mMake false 0 3 m_Web__init [] (mCons (mOp oIx (mVar 3) (mC (.int 0))) (mCons (mOp oIx (mVar 4) (mC (.int 0))) mNil))) (mCons (mMake false 0 3 m_Web__init [] (mCons (mOp oIx (mVar 3) (mC (.int 1))) (mCons (mOp oIx (mVar 4) (mC (.int 1))) mNil))) mNil)))
def b_law_1b_6 : MS := (sAsg (mAp (oLst false) (mCons (mC (.int 0)) (mCons (mC (.int 1)) (mCons (mC (.int 2)) (mCons (mC (.int 3)) (mCons (mC (.int 1000000000)) (mCons (mOp oAdd (mC (.int 1)) (mCall m_law_take [] (mCons (mVar 1) (mCons (mC (.int 1000000000)) mNil)))) mNil))))))) (gN 8))
def b_law_1b_7 : MS := (sAsg (mOp oIx (mVar 8) (mCall m_law_take [] (mCons (mVar 1) (mCons (mC (.int 6)) mNil)))) (gN 9))
def b_law_1b_8b_0 : MS := (sIf (tNotM (mTst (mCall m_law_right [] (mCons (mVar 10) (mCons (mVar 6) (mCons (mVar 7) (mCons (mVar 3) (mCons (mVar 5) (mCons (mVar 9) mNil))))))))) (sRet (mC (.bl false))) sNext)
def b_law_1b_8b_1 : MS := (sIf (tNotM (mTst (mCall m_law_right [] (mCons (mVar 10) (mCons (mVar 7) (mCons (mVar 6) (mCons (mRevL false (mVar 3)) (mCons (mRevL false (mVar 5)) (mCons (mVar 9) mNil))))))))) (sRet (mC (.bl false))) sNext)
def b_law_1b_8b_2 : MS := (sIf (tOrM (tNotM (mTst (mCall m_law_web_is [] (mCons (mVar 6) (mCons (mOp oIx (mVar 3) (mC (.int 0))) (mCons (mOp oIx (mVar 5) (mC (.int 0))) mNil)))))) (tNotM (mTst (mCall m_law_web_is [] (mCons (mVar 7) (mCons (mOp oIx (mVar 3) (mC (.int 1))) (mCons (mOp oIx (mVar 5) (mC (.int 1))) mNil))))))) (sRet (mC (.bl false))) sNext)
def b_law_1b_8 : MS := (sFor (mSeq (mAp oTup (mCons (mC (.int 0)) (mCons (mC (.int 1)) (mCons (mC (.int 2)) (mCons (mC (.int 3)) mNil)))))) (Tgt.nm 10).M (sSeq b_law_1b_8b_0 (sSeq b_law_1b_8b_1 b_law_1b_8b_2)))
def b_law_1 : MS := (sFor (mRng1 (mC (.int 6))) (Tgt.nm 2).M (sSeq b_law_1b_0 (sSeq b_law_1b_1 (sSeq b_law_1b_2 (sSeq b_law_1b_3 (sSeq b_law_1b_4 (sSeq b_law_1b_5 (sSeq b_law_1b_6 (sSeq b_law_1b_7 b_law_1b_8)))))))))
def b_law_2 : MS := (sRet (mC (.bl true)))
def b_law : MS := (sSeq b_law_0 (sSeq b_law_1 b_law_2))
def m_law : MF := mDef 1 14 b_law
theorem e_law (x0 : D) (C : Store) : m_law [x0] C = finS C.length (b_law ⟨C.length, [some x0, none, none, none, none, none, none, none, none, none, none, none, none, none]⟩ C) := mDef_e rfl rfl
theorem ok_law (T : Txt K mg) : ∃ fd, FnG P w K mg base 10 (a_law K) fd ["_law_script"] (SpD (cn K) 1 m_law) ∧ Binds K fd ["_law_script"] [] ∧ PySem.W.keepIn K (.ref (a_law K)) = true := by
  obtain ⟨fd_law_bag, F_law_bag, B_law_bag, kp_law_bag⟩ := ok_law_bag (P := P) (w := w) (base := base) T
  obtain ⟨fd_law_take, F_law_take, B_law_take, kp_law_take⟩ := ok_law_take (P := P) (w := w) (base := base) T
  obtain ⟨fd_law_items, F_law_items, B_law_items, kp_law_items⟩ := ok_law_items (P := P) (w := w) (base := base) T
  obtain ⟨fd_law_sums, F_law_sums, B_law_sums, kp_law_sums⟩ := ok_law_sums (P := P) (w := w) (base := base) T
  obtain ⟨fd_Web__init, F_Web__init, B_Web__init, kp_Web__init, ds_Web__init, vd_Web__init, Bd_Web__init⟩ := ok_Web__init (P := P) (w := w) (base := base) T
  obtain ⟨fd_law_right, F_law_right, B_law_right, kp_law_right⟩ := ok_law_right (P := P) (w := w) (base := base) T
  obtain ⟨fd_law_web_is, F_law_web_is, B_law_web_is, kp_law_web_is⟩ := ok_law_web_is (P := P) (w := w) (base := base) T
  obtain ⟨fd, F⟩ := T.f_law
  refine ⟨fd, fn_ok (k := cn K) F sc_law (by decide) fun cdv A outer s H E hr => ?_, F.bindsN fun _ _ _ _ _ _ us hl => match us, hl with | [_], _ => rfl, F.kp⟩
  have tk : Takes (cxOf (L2.CX P w) P w K mg base ["_law_script", "_law_bag_here", "_law_trip", "_law_sizes", "_law_items_here", "_law_sums_here", "_law_one_here", "_law_other", "_law_menu", "_law_k", "_law_mode", "_law_size", "_law_item", "_law_part"] "law" (defScope s_law) (a_law K) cdv A outer s H E) (fun c d _ H => E c d H) := takes_of rfl rfl rfl rfl
  exact (dss_cons (ds_set (i := 1) sc_law.nd rfl (Or.inr rfl) (de_call tk F_law_bag ar_law_bag (hr.mono (by decide)) (by rfl) T.g_law_bag kp_law_bag B_law_bag .nil (fun _ _ _ => .nil) (da_cons (dv 0) da_nil)))
  (dss_cons (ds_for (passes_of rfl) rfl (di_rng1 (by rfl) T.n_range de_int) (tg_nm (i := 2) sc_law.nd rfl (Or.inl rfl)) (dss_cons (ds_set (i := 3) sc_law.nd rfl (Or.inl rfl) (de_lst true (da_cons (de_call tk F_law_take ar_law_take (hr.mono (by decide)) (by rfl) T.g_law_take kp_law_take B_law_take .nil (fun _ _ _ => .nil) (da_cons (dv 1) (da_cons de_int da_nil))) (da_cons de_int da_nil))))
  (dss_cons (ds_setL (de_if (dt_cmp op_gt d_gt (de_call tk F_law_take ar_law_take (hr.mono (by decide)) (by rfl) T.g_law_take kp_law_take B_law_take .nil (fun _ _ _ => .nil) (da_cons (dv 1) (da_cons de_int da_nil))) de_int (nomark _)) (de_ix ix_seq d_ix (dv 3) de_int) (de_call tk F_law_take ar_law_take (hr.mono (by decide)) (by rfl) T.g_law_take kp_law_take B_law_take .nil (fun _ _ _ => .nil) (da_cons (dv 1) (da_cons de_int da_nil)))) (pg_sub (dv 3) de_int set_list))
  (dss_cons (ds_setLc (i := 4) (own := [("_law_size", 11)]) true rfl rfl sc_law.nd rfl rfl (sw_true rfl rfl rfl (by decide +kernel)) (di_seq rfl (dv 3)) (blkOk_by (own := [("_law_size", 11)]) rfl) (by decide) (fun _ _ _ _ _ => (tg_nm (i := 11) sc_law.nd rfl (by first | exact Or.inl rfl | exact Or.inr rfl))) (fun _ _ _ _ _ => dts_nil) (fun _ _ _ _ _ => (de_call takes0 F_law_items ar_law_items (hr.mono (by decide)) (by rfl) T.g_law_items kp_law_items B_law_items .nil (fun _ _ _ => .nil) (da_cons (dv 1) (da_cons (dv 11) (da_cons (de_call takes0 F_law_take ar_law_take (hr.mono (by decide)) (by rfl) T.g_law_take kp_law_take B_law_take .nil (fun _ _ _ => .nil) (da_cons (dv 1) (da_cons de_int da_nil))) da_nil))))))
  (dss_cons (ds_if (PW.pt (dw_and (dt_cmp (op_eq.or (op_eqD hr.room.units)) d_eqA (de_ix ix_seq d_ix (dv 3) de_int) (de_ix ix_seq d_ix (dv 3) de_int) (nomark _)) (dw_and1 (dt_cmp (op_eq.or (op_eqD hr.room.units)) d_eqA (de_call tk F_law_take ar_law_take (hr.mono (by decide)) (by rfl) T.g_law_take kp_law_take B_law_take .nil (fun _ _ _ => .nil) (da_cons (dv 1) (da_cons de_int da_nil))) de_int (nomark _))))) (dss_one (ds_setL (de_lc (own := [("_law_item", 12)]) false rfl rfl sc_law.nd (di_seq rfl (de_ix ix_seq d_ix (dv 4) de_int)) (blkOk_by (own := [("_law_item", 12)]) rfl) (by decide) (fun _ _ _ _ _ => (tg_nm (i := 12) sc_law.nd rfl (by first | exact Or.inl rfl | exact Or.inr rfl))) (fun _ _ _ _ _ => (pts_one (dt_cmp op_gt d_gt (de_call takes0 F_law_take ar_law_take (hr.mono (by decide)) (by rfl) T.g_law_take kp_law_take B_law_take .nil (fun _ _ _ => .nil) (da_cons (dv 1) (da_cons de_int da_nil))) de_int (nomark _)))) (fun _ _ _ _ _ => (dv 12))) (pg_sub (dv 4) de_int set_list))) dss_nil)
  (dss_cons (ds_setLc (i := 5) (own := [("_law_part", 13)]) false rfl rfl sc_law.nd rfl rfl (sw_true rfl rfl rfl (by decide +kernel)) (di_seq rfl (dv 4)) (blkOk_by (own := [("_law_part", 13)]) rfl) (by decide) (fun _ _ _ _ _ => (tg_nm (i := 13) sc_law.nd rfl (by first | exact Or.inl rfl | exact Or.inr rfl))) (fun _ _ _ _ _ => dts_nil) (fun _ _ _ _ _ => (de_call takes0 F_law_sums ar_law_sums (hr.mono (by decide)) (by rfl) T.g_law_sums kp_law_sums B_law_sums .nil (fun _ _ _ => .nil) (da_cons (dv 13) da_nil))))
  (dss_cons (ds_par (i := 6) (j := 7) rfl sc_law.nd rfl rfl (by decide) rfl rfl (da_cons (de_make false 0 3 tk rfl T.mk_Web F_Web__init ar_Web__init rfl (hr.mono (by decide)) (by rfl) T.g_Web B_Web__init .nil (fun _ _ _ => .nil) (da_cons (de_ix ix_seq d_ix (dv 3) de_int) (da_cons (de_ix ix_seq d_ix (dv 4) de_int) da_nil))) (da_cons (de_make false 0 3 tk rfl T.mk_Web F_Web__init ar_Web__init rfl (hr.mono (by decide)) (by rfl) T.g_Web B_Web__init .nil (fun _ _ _ => .nil) (da_cons (de_ix ix_seq d_ix (dv 3) de_int) (da_cons (de_ix ix_seq d_ix (dv 4) de_int) da_nil))) da_nil)))
  (dss_cons (ds_set (i := 8) sc_law.nd rfl (Or.inl rfl) (de_lst false (da_cons de_int (da_cons de_int (da_cons de_int (da_cons de_int (da_cons de_int (da_cons (de_op op_add d_add de_int (de_call tk F_law_take ar_law_take (hr.mono (by decide)) (by rfl) T.g_law_take kp_law_take B_law_take .nil (fun _ _ _ => .nil) (da_cons (dv 1) (da_cons de_int da_nil)))) da_nil))))))))
  (dss_cons (ds_set (i := 9) sc_law.nd rfl (Or.inl rfl) (de_ix ix_seq d_ix (dv 8) (de_call tk F_law_take ar_law_take (hr.mono (by decide)) (by rfl) T.g_law_take kp_law_take B_law_take .nil (fun _ _ _ => .nil) (da_cons (dv 1) (da_cons de_int da_nil)))))
  (dss_one (ds_for (passes_of rfl) rfl (di_seq rfl (de_tup (da_cons de_int (da_cons de_int (da_cons de_int (da_cons de_int da_nil)))))) (tg_nm (i := 10) sc_law.nd rfl (Or.inl rfl)) (dss_cons (ds_if (dt_not (dt_val (de_call tk F_law_right ar_law_right (hr.mono (by decide)) (by rfl) T.g_law_right kp_law_right B_law_right .nil (fun _ _ _ => .nil) (da_cons (dv 10) (da_cons (dv 6) (da_cons (dv 7) (da_cons (dv 3) (da_cons (dv 5) (da_cons (dv 9) da_nil))))))))) (dss_one (ds_ret de_bl)) dss_nil)
  (dss_cons (ds_if (dt_not (dt_val (de_call tk F_law_right ar_law_right (hr.mono (by decide)) (by rfl) T.g_law_right kp_law_right B_law_right .nil (fun _ _ _ => .nil) (da_cons (dv 10) (da_cons (dv 7) (da_cons (dv 6) (da_cons (de_revL false rfl (dv 3)) (da_cons (de_revL false rfl (dv 5)) (da_cons (dv 9) da_nil))))))))) (dss_one (ds_ret de_bl)) dss_nil)
  (dss_one (ds_if (PW.pt (dw_or (dt_not (dt_val (de_call tk F_law_web_is ar_law_web_is (hr.mono (by decide)) (by rfl) T.g_law_web_is kp_law_web_is B_law_web_is .nil (fun _ _ _ => .nil) (da_cons (dv 6) (da_cons (de_ix ix_seq d_ix (dv 3) de_int) (da_cons (de_ix ix_seq d_ix (dv 5) de_int) da_nil)))))) (dw_or1 (dt_not (dt_val (de_call tk F_law_web_is ar_law_web_is (hr.mono (by decide)) (by rfl) T.g_law_web_is kp_law_web_is B_law_web_is .nil (fun _ _ _ => .nil) (da_cons (dv 7) (da_cons (de_ix ix_seq d_ix (dv 3) de_int) (da_cons (de_ix ix_seq d_ix (dv 5) de_int) da_nil))))))))) (dss_one (ds_ret de_bl)) dss_nil)))))))))))))))
  (dss_one (ds_ret de_bl))))
end
end
end CL
set_option maxHeartbeats 4000000
namespace CL
open PySem L2 CT
theorem is_integer_int (x : Int) (C : Store) : m_is_integer [.int x] C = .ok (.bl true) C := by
  simp [m_is_integer, b_is_integer, ev_def, isi, tyD, isaT]
theorem is_count_int (x a b : Int) (C : Store) : m_is_count [.int x, .int a, .int b] C = .ok (.bl (decide (a ≤ x) && decide (x ≤ b))) C := by
  simp [m_is_count, b_is_count, ev_def, is_integer_int]
  by_cases h : a ≤ x <;> simp [h]
/-! ### the bag -/
def bagC (a b c : Int) (cs : List Int) : Cell := .lst [.int a, .int b, .int c, .lst (cs.map .int)]
section
variable {a b c n : Int} {cs : List Int} {C : Store} {i : Nat}
theorem mul1 (x : Int) (C : Store) : oMul (.int x) (.int 48271) C = some (.int (x * 48271), C) := ev_mul C (by simp [cMul])
theorem mul2 (x : Int) (C : Store) : oMul (.int 7919) (.int x) C = some (.int (7919 * x), C) := ev_mul C (by simp [cMul])
theorem mul3 (x : Int) (C : Store) : oMul (.int x) (.int 39373) C = some (.int (x * 39373), C) := ev_mul C (by simp [cMul])
theorem mul4 (x : Int) (C : Store) : oMul (.int x) (.int 30011) C = some (.int (x * 30011), C) := ev_mul C (by simp [cMul])
theorem mod1 (x : Int) (C : Store) : oMod (.int x) (.int 2147483647) C = some (.int (x % 2147483647), C) := ev_mod C (by decide)
theorem mod2 (x : Int) (C : Store) : oMod (.int x) (.int 1000000007) C = some (.int (x % 1000000007), C) := ev_mod C (by decide)
theorem mod3 (x : Int) (C : Store) : oMod (.int x) (.int 998244353) C = some (.int (x % 998244353), C) := ev_mod C (by decide)
theorem div7 (x : Int) (C : Store) : oDiv (.int x) (.int 7) C = some (.int (x / 7), C) := ev_div C (by decide) (by decide)
theorem take_0 (hC : C[i]? = some (some (bagC 0 b c cs))) (hb : 0 ≤ b) (hb2 : b < 2147483647) (hc : 0 ≤ c) (hcs : ∀ x ∈ cs, 0 ≤ x) : ∃ a' b' s2 s3, 0 ≤ a' ∧ 0 ≤ b' ∧ b' < 2147483647 ∧
    b_law_take_0 ⟨C.length, [some (.cell i), some (.int n), none, none, none, none, none]⟩ C = .nx [some (.cell i), some (.int n), s2, s3, none, none, none] (C.set i (some (bagC a' b' (c + 1) cs))) := by
  have hi : i < C.length := (List.getElem?_eq_some_iff.mp hC).1
  have hC' : C[i]? = some (some (Cell.lst [.int 0, .int b, .int c, .lst (cs.map .int)])) := hC
  have gs : ∀ x : Option Cell, (C.set i x)[i]? = some x := fun x => List.getElem?_set_self hi
  by_cases h1 : c < cs.length
  · have h1' : c.toNat < cs.length := by omega
    have hcell : 0 ≤ cs[c.toNat] := hcs _ (List.getElem_mem h1')
    by_cases h2 : 1000000000000000000 ≤ cs[c.toNat]
    · refine ⟨cs[c.toNat], (b * 48271 + cs[c.toNat] % 2147483647 + 7919 * (c + 1)) % 2147483647, some (.int cs[c.toNat]), some (.int (b * 48271 + cs[c.toNat] % 2147483647 + 7919 * (c + 1))), hcell, ?_, ?_, ?e⟩
      case e => simp [b_law_take_0, b_law_take_0t_0, b_law_take_0t_1, b_law_take_0t_2, b_law_take_0t_3, b_law_take_0t_4, b_law_take_0t_5, oIx, vS, hC', atI, ixN, gs, oLen, h1, h1', hc, auK2, auK4, cL, wr, cbC, cbL, cb, stK4, h2, mul1, mul2, mod1, bagC]
      · exact Int.emod_nonneg _ (by decide)
      · exact Int.emod_lt_of_pos _ (by decide)
    · refine ⟨0, (b * 48271 + cs[c.toNat] % 2147483647 + 7919 * (c + 1)) % 2147483647, some (.int cs[c.toNat]), some (.int (b * 48271 + cs[c.toNat] % 2147483647 + 7919 * (c + 1))), by decide, ?_, ?_, ?e⟩
      case e => simp [b_law_take_0, b_law_take_0t_0, b_law_take_0t_1, b_law_take_0t_2, b_law_take_0t_3, b_law_take_0t_4, b_law_take_0t_5, oIx, vS, hC', atI, ixN, gs, oLen, h1, h1', hc, auK2, auK4, cL, wr, cbC, cbL, cb, stK4, h2, mul1, mul2, mod1, bagC]
      · exact Int.emod_nonneg _ (by decide)
      · exact Int.emod_lt_of_pos _ (by decide)
  · refine ⟨0, (b * 48271 + 0 % 2147483647 + 7919 * (c + 1)) % 2147483647, some (.int 0), some (.int (b * 48271 + 0 % 2147483647 + 7919 * (c + 1))), by decide, ?_, ?_, ?e⟩
    case e => simp [b_law_take_0, b_law_take_0t_0, b_law_take_0t_1, b_law_take_0t_2, b_law_take_0t_3, b_law_take_0t_4, b_law_take_0t_5, oIx, vS, hC', atI, ixN, gs, oLen, h1, hc, auK2, auK4, cL, wr, cbC, cbL, cb, stK4, mul1, mul2, mod1, bagC]
    · exact Int.emod_nonneg _ (by decide)
    · exact Int.emod_lt_of_pos _ (by decide)
theorem take_1 (hC : C[i]? = some (some (bagC a b c cs))) (ha : 0 < a) (hn : 0 < n) (hn2 : n < 4611686018427387904) {s2 s3 : Option D} :
    b_law_take_1 ⟨C.length, [some (.cell i), some (.int n), s2, s3, none, none, none]⟩ C = .rt (.int (a % n)) (C.set i (some (bagC (a / n) b c cs))) := by
  have hC' : C[i]? = some (some (Cell.lst [.int a, .int b, .int c, .lst (cs.map .int)])) := hC
  simp [b_law_take_1, b_law_take_1t_0, b_law_take_1t_1, b_law_take_1t_2, oIx, vS, hC', atI, ixN, ha, ev_mod C hn, ev_div C hn hn2, stK4, cL, wr, cbC, cbL, cb, bagC]
theorem take_1n (hC : C[i]? = some (some (bagC 0 b c cs))) {s2 s3 : Option D} :
    b_law_take_1 ⟨C.length, [some (.cell i), some (.int n), s2, s3, none, none, none]⟩ C = .nx [some (.cell i), some (.int n), s2, s3, none, none, none] C := by
  have hC' : C[i]? = some (some (Cell.lst [.int 0, .int b, .int c, .lst (cs.map .int)])) := hC
  simp [b_law_take_1, oIx, vS, hC', atI, ixN]
theorem mulB {x y : Int} (h1 : 0 ≤ x) (h2 : x < 1000000007) (C : Store) : oMul (.int x) (.int y) C = some (.int (x * y), C) := ev_mul C (by
  have e1 : decide (-(2 ^ 64) < x) = true := decide_eq_true (by omega)
  have e2 : decide (x < 2 ^ 64) = true := decide_eq_true (by omega)
  simp only [cMul, e1, e2, Bool.and_self, Bool.true_or])
theorem take_2 (hC : C[i]? = some (some (bagC a b c cs))) (hb : 0 ≤ b) (hn : 0 < n) {s2 s3 : Option D} : ∃ r, 0 ≤ r ∧ r < n ∧
    sSeq b_law_take_2 (sSeq b_law_take_3 b_law_take_4) ⟨C.length, [some (.cell i), some (.int n), s2, s3, none, none, none]⟩ C = .rt (.int r) C := by
  have hC' : C[i]? = some (some (Cell.lst [.int a, .int b, .int c, .lst (cs.map .int)])) := hC
  have e0 : 0 ≤ (b + 1) * 39373 % 1000000007 := Int.emod_nonneg _ (by decide)
  have e1 : (b + 1) * 39373 % 1000000007 < 1000000007 := Int.emod_lt_of_pos _ (by decide)
  refine ⟨((b + 1) * 39373 % 1000000007 * ((b + 1) * 39373 % 1000000007) % 998244353 * 30011 % 998244353 / 7) % n, Int.emod_nonneg _ (by omega), Int.emod_lt_of_pos _ hn, ?_⟩
  simp [b_law_take_2, b_law_take_3, b_law_take_4, oIx, vS, hC', atI, ixN, mul3, mod2, mulB e0 e1, mod3, mul4, div7, ev_mod C hn]
/-- a bag in the store -/
def Bag (i : Nat) (cs : List Int) (C : Store) : Prop := ∃ a b c, C[i]? = some (some (bagC a b c cs)) ∧ 0 ≤ a ∧ 0 ≤ b ∧ b < 2147483647 ∧ 0 ≤ c
theorem take_ok (hB : Bag i cs C) (hcs : ∀ x ∈ cs, 0 ≤ x) (hn : 0 < n) (hn2 : n < 4611686018427387904) : ∃ r x, m_law_take [.cell i, .int n] C = .ok (.int r) (C.set i (some x)) ∧ 0 ≤ r ∧ r < n ∧ Bag i cs (C.set i (some x)) := by
  obtain ⟨a, b, c, hC, ha, hb, hb2, hc⟩ := hB
  have hi : i < C.length := (List.getElem?_eq_some_iff.mp hC).1
  have gs : ∀ x : Option Cell, (C.set i x)[i]? = some x := fun x => List.getElem?_set_self hi
  have tk : ∀ x : Option Cell, (C.set i x).take C.length = C.set i x := fun x => List.take_of_length_le (by simp)
  have hC' : C[i]? = some (some (Cell.lst [.int a, .int b, .int c, .lst (cs.map .int)])) := hC
  have ld : ∀ x : Option Cell, (C.set i x).length = C.length := fun x => by simp
  by_cases h0 : a = 0
  · subst h0
    obtain ⟨a', b', s2, s3, h1, h2, h3, e⟩ := take_0 (n := n) hC hb hb2 hc hcs
    by_cases h4 : a' = 0
    · subst h4
      obtain ⟨r, r1, r2, e2⟩ := take_2 (n := n) (s2 := s2) (s3 := s3) (gs (some (bagC 0 b' (c + 1) cs))) h2 hn
      have e1 := take_1n (n := n) (s2 := s2) (s3 := s3) (gs (some (bagC 0 b' (c + 1) cs)))
      rw [ld] at e1 e2
      refine ⟨r, _, ?_, r1, r2, 0, b', c + 1, gs _, by decide, h2, h3, by omega⟩
      rw [e_law_take, b_law_take, ev_seq, e, seqK_nx, ev_seq, e1, seqK_nx, e2]
      simp [tk]
    · have e1 := take_1 (n := n) (s2 := s2) (s3 := s3) (gs (some (bagC a' b' (c + 1) cs))) (by omega) hn hn2
      rw [ld] at e1
      refine ⟨a' % n, bagC (a' / n) b' (c + 1) cs, ?_, Int.emod_nonneg _ (by omega), Int.emod_lt_of_pos _ hn, a' / n, b', c + 1, gs _, Int.ediv_nonneg h1 (by omega), h2, h3, by omega⟩
      rw [e_law_take, b_law_take, ev_seq, e, seqK_nx, ev_seq, e1]
      simp [tk]
  · have e1 := take_1 (n := n) (s2 := none) (s3 := none) hC (by omega) hn hn2
    refine ⟨a % n, bagC (a / n) b c cs, ?_, Int.emod_nonneg _ (by omega), Int.emod_lt_of_pos _ hn, a / n, b, c, gs _, Int.ediv_nonneg ha (by omega), hb, hb2, hc⟩
    have e : b_law_take_0 ⟨C.length, [some (.cell i), some (.int n), none, none, none, none, none]⟩ C = .nx [some (.cell i), some (.int n), none, none, none, none, none] C := by
      simp [b_law_take_0, oIx, vS, hC', atI, ixN, h0]
    rw [e_law_take, b_law_take, ev_seq, e, seqK_nx, ev_seq, e1]
    simp [tk]
end
end CL
set_option maxHeartbeats 4000000
/-! E2: loops, comprehensions, dicts worked out. -/
namespace CT
open PySem L2
@[simp] theorem tgt_nm (i : Nat) (d : D) (sl : List (Option D)) : (Tgt.nm i).M d sl = some (sl.set i (some d)) := rfl
@[simp] theorem tgt_tp (is : List Nat) (ds : List D) (sl : List (Option D)) : (Tgt.tp is).M (.tup ds) sl = setAll is ds sl := rfl
@[simp] theorem wipe0 (sl : List (Option D)) : wipeD sl [] = sl := rfl
@[simp] theorem wipe1 (sl : List (Option D)) (v : Nat) (vs : List Nat) : wipeD sl (v :: vs) = (wipeD sl vs).set v none := rfl
/-- what is walked stays: these items -/
structure PureIt (it : ItD) (xs : List D) : Prop where
  n : it.n = xs.length
  item : ∀ j C, j < xs.length → it.item j C = xs[j]?
  fin : ∀ C, it.fin C = true
theorem pure_C (xs : List D) : PureIt (itC xs) xs := ⟨rfl, fun _ _ _ => rfl, fun _ => rfl⟩
def rngI (lo : Int) (n : Nat) : List D := (List.range n).map fun i => D.int (lo + (i : Nat))
theorem pure_R (lo : Int) (n : Nat) : PureIt (itR lo n) (rngI lo n) := ⟨by simp [itR, rngI], fun j C hj => by
  have : j < n := by simpa [rngI] using hj
  simp [itR, rngI, this], fun _ => rfl⟩
/-- a loop that runs through -/
theorem loop_inv {it : ItD} {g : MG} {body : MS} {fl : Nat} (I : Nat → List (Option D) → Store → Prop)
    (step : ∀ j sl C, j < it.n → I j sl C → ∃ d sl1 sl2 C2, it.item j C = some d ∧ g d sl = some sl1 ∧ body ⟨fl, sl1⟩ C = .nx sl2 C2 ∧ I (j + 1) sl2 C2) (fin : ∀ sl C, I it.n sl C → it.fin C = true) :
    ∀ r j sl C, r + j = it.n → I j sl C → ∃ sl' C', loopN it g body fl r j sl C = .nx sl' C' ∧ I it.n sl' C'
  | 0, j, sl, C, h, i => by
    have e : j = it.n := by omega
    subst e
    exact ⟨sl, C, by unfold loopN; rw [if_pos (fin sl C i)], i⟩
  | r + 1, j, sl, C, h, i => by
    obtain ⟨d, sl1, sl2, C2, h1, h2, h3, h4⟩ := step j sl C (by omega) i
    obtain ⟨sl', C', h5, h6⟩ := loop_inv I step fin r (j + 1) sl2 C2 (by omega) h4
    refine ⟨sl', C', ?_, h6⟩
    unfold loopN
    simp only [h1, h2, h3, h5]
/-- over given items -/
theorem loop_list {it : ItD} {xs : List D} (p : PureIt it xs) {g : MG} {body : MS} {fl : Nat} (I : Nat → List (Option D) → Store → Prop)
    (step : ∀ j x sl C, xs[j]? = some x → I j sl C → ∃ sl1 sl2 C2, g x sl = some sl1 ∧ body ⟨fl, sl1⟩ C = .nx sl2 C2 ∧ I (j + 1) sl2 C2) {sl : List (Option D)} {C : Store} (i : I 0 sl C) :
    ∃ sl' C', loopN it g body fl it.n 0 sl C = .nx sl' C' ∧ I xs.length sl' C' := by
  obtain ⟨sl', C', h1, h2⟩ := loop_inv I (fun j sl C hj i => by
    have hj' : j < xs.length := by rw [← p.n]; exact hj
    obtain ⟨sl1, sl2, C2, h1, h2, h3⟩ := step j xs[j] sl C (List.getElem?_eq_getElem hj') i
    exact ⟨xs[j], sl1, sl2, C2, by rw [p.item j C hj', List.getElem?_eq_getElem hj'], h1, h2, h3⟩) (fun sl C _ => p.fin C) it.n 0 sl C (by omega) i
  exact ⟨sl', C', h1, by rw [← p.n]; exact h2⟩
/-! ### comprehensions that change nothing -/
theorem lc_go {it : ItD} {xs : List D} (p : PureIt it xs) {g : MG} {tt : MT} {te : ME} {C : Store} {sl : List (Option D)} {f : D → Bool} {h : D → D} (sz : xs.length ≤ 16777215)
    (st : ∀ x ∈ xs, ∃ sl1, g x sl = some sl1 ∧ ∀ acc, tt ⟨C.length, sl1⟩ (C ++ [some (.lst acc)]) = .ok (f x) (C ++ [some (.lst acc)]) ∧ (f x = true → te ⟨C.length, sl1⟩ (C ++ [some (.lst acc)]) = .ok (h x) (C ++ [some (.lst acc)]))) :
    ∀ r j, r + j = xs.length → lcN it g tt te C.length sl r j (C ++ [some (.lst (((xs.take j).filter f).map h))]) = .ok () (C ++ [some (.lst ((xs.filter f).map h))])
  | 0, j, e => by
    have ej : j = xs.length := by omega
    subst ej
    unfold lcN
    rw [if_pos (p.fin _), List.take_length]
  | r + 1, j, e => by
    have hj : j < xs.length := by omega
    obtain ⟨sl1, h1, h2⟩ := st xs[j] (List.getElem_mem hj)
    have ih := lc_go p sz st r (j + 1) (by omega)
    have tk : xs.take (j + 1) = xs.take j ++ [xs[j]] := (List.take_append_getElem hj).symm
    rw [tk, List.filter_append, List.map_append] at ih
    unfold lcN
    rw [p.item j _ hj, List.getElem?_eq_getElem hj]
    simp only [h1]
    obtain ⟨e1, e2⟩ := h2 (((xs.take j).filter f).map h)
    rw [e1]
    simp only [bn0_ok]
    cases hf : f xs[j] with
    | true =>
      rw [if_pos rfl, e2 hf]
      simp only [bn0_ok]
      have at_n : (C ++ [some (Cell.lst (((xs.take j).filter f).map h))])[C.length]? = some (some (.lst (((xs.take j).filter f).map h))) := by simp
      have hz : szN ((((xs.take j).filter f).map h).length + 1) = true := by
        have l1 : ((xs.take j).filter f).length ≤ (xs.take j).length := List.length_filter_le _ _
        have l2 : (xs.take j).length ≤ j := by simp; omega
        simp only [szN, List.length_map, decide_eq_true_eq]
        omega
      rw [at_n]
      simp only [hz, if_true]
      have es : (C ++ [some (Cell.lst (((xs.take j).filter f).map h))]).set C.length (some (.lst (((xs.take j).filter f).map h ++ [h xs[j]]))) = C ++ [some (.lst (((xs.take j).filter f).map h ++ [h xs[j]]))] := by simp
      rw [es]
      simpa [List.filter_cons, hf] using ih
    | false =>
      rw [if_neg (by decide)]
      simpa [List.filter_cons, hf] using ih
/-- [e for t in it if c], nothing changed: plain data -/
theorem ev_lc {mi : MI} {it : ItD} {xs : List D} (p : PureIt it xs) {g : MG} {tt : MT} {te : ME} {vs : List Nat} {F : Fr} {C : Store} (f : D → Bool) (h : D → D) (hi : mi F C = .ok it C) (sz : xs.length ≤ 16777215)
    (st : ∀ x ∈ xs, ∃ sl1, g x (wipeD F.sl vs) = some sl1 ∧ ∀ acc, tt ⟨C.length, sl1⟩ (C ++ [some (.lst acc)]) = .ok (f x) (C ++ [some (.lst acc)]) ∧ (f x = true → te ⟨C.length, sl1⟩ (C ++ [some (.lst acc)]) = .ok (h x) (C ++ [some (.lst acc)])))
    (hc : ∀ x ∈ xs, f x = true → cb C.length (h x) = true) : mLc false mi g tt te vs F C = .ok (.lst ((xs.filter f).map h)) C := by
  have e := lc_go p sz st it.n 0 (by rw [p.n]; omega)
  unfold mLc
  rw [hi]
  simp only [bnd_ok]
  simp only [List.take_zero, List.filter_nil, List.map_nil] at e
  rw [e]
  simp only [bn0_ok]
  have at_n : (C ++ [some (Cell.lst ((xs.filter f).map h))])[C.length]? = some (some (.lst ((xs.filter f).map h))) := by simp
  have hb : cbL C.length ((xs.filter f).map h) = true := by
    have : ∀ l : List D, (∀ x ∈ l, f x = true → cb C.length (h x) = true) → cbL C.length ((l.filter f).map h) = true := by
      intro l
      induction l with
      | nil => intro _; rfl
      | cons x l ih =>
        intro hl
        rw [List.filter_cons]
        split
        · rename_i hx
          show (cb C.length (h x) && cbL C.length ((l.filter f).map h)) = true
          rw [hl x (List.mem_cons_self ..) hx, ih fun y hy => hl y (List.mem_cons_of_mem _ hy)]
          rfl
        · exact ih fun y hy => hl y (List.mem_cons_of_mem _ hy)
    exact this xs hc
  unfold lcEnd
  rw [if_neg (by decide), at_n]
  simp [hb]
theorem ev_rng1 {m : ME} {F : Fr} {C : Store} {j : Int} (h : m F C = .ok (.int j) C) (hj : inR j = true) : mRng1 m F C = .ok (itR 0 j.toNat) C := by
  unfold mRng1
  rw [h]
  simp [hj]
theorem ev_rng2 {m m2 : ME} {F : Fr} {C : Store} {i j : Int} (h : m F C = .ok (.int i) C) (h2 : m2 F C = .ok (.int j) C) (hi : inR i = true) (hj : inR j = true) : mRng2 m m2 F C = .ok (itR i (j - i).toNat) C := by
  unfold mRng2
  rw [h]
  simp [h2, hi, hj]
theorem ev_seqI {m : ME} {F : Fr} {C : Store} {d : D} {it : ItD} (h : m F C = .ok d C) (hi : itS d C = some it) : mSeq m F C = .ok it C := by
  unfold mSeq
  rw [h]
  simp [hi]
theorem ev_enum {m : ME} {F : Fr} {C : Store} {d : D} {it : ItD} (h : m F C = .ok d C) (hi : itS d C = some it) : mEnum m F C = .ok (prI it) C := by
  unfold mEnum
  rw [h]
  simp [hi]
/-! ### two clauses -/
theorem lc_from {it : ItD} {xs : List D} (p : PureIt it xs) {g : MG} {tt : MT} {te : ME} {C : Store} {sl : List (Option D)} {f : D → Bool} {h : D → D} {a0 : List D} (sz : a0.length + xs.length ≤ 16777215)
    (st : ∀ x ∈ xs, ∃ sl1, g x sl = some sl1 ∧ ∀ acc, tt ⟨C.length, sl1⟩ (C ++ [some (.lst acc)]) = .ok (f x) (C ++ [some (.lst acc)]) ∧ (f x = true → te ⟨C.length, sl1⟩ (C ++ [some (.lst acc)]) = .ok (h x) (C ++ [some (.lst acc)]))) :
    ∀ r j, r + j = xs.length → lcN it g tt te C.length sl r j (C ++ [some (.lst (a0 ++ ((xs.take j).filter f).map h))]) = .ok () (C ++ [some (.lst (a0 ++ (xs.filter f).map h))])
  | 0, j, e => by
    have ej : j = xs.length := by omega
    subst ej
    unfold lcN
    rw [if_pos (p.fin _), List.take_length]
  | r + 1, j, e => by
    have hj : j < xs.length := by omega
    obtain ⟨sl1, h1, h2⟩ := st xs[j] (List.getElem_mem hj)
    have ih := lc_from p sz st r (j + 1) (by omega)
    have tk : xs.take (j + 1) = xs.take j ++ [xs[j]] := (List.take_append_getElem hj).symm
    rw [tk, List.filter_append, List.map_append] at ih
    unfold lcN
    rw [p.item j _ hj, List.getElem?_eq_getElem hj]
    simp only [h1]
    obtain ⟨e1, e2⟩ := h2 (a0 ++ ((xs.take j).filter f).map h)
    rw [e1]
    simp only [bn0_ok]
    cases hf : f xs[j] with
    | true =>
      rw [if_pos rfl, e2 hf]
      simp only [bn0_ok]
      have at_n : (C ++ [some (Cell.lst (a0 ++ ((xs.take j).filter f).map h))])[C.length]? = some (some (.lst (a0 ++ ((xs.take j).filter f).map h))) := by simp
      have hz : szN ((a0 ++ ((xs.take j).filter f).map h).length + 1) = true := by
        have l1 : ((xs.take j).filter f).length ≤ (xs.take j).length := List.length_filter_le _ _
        have l2 : (xs.take j).length ≤ j := by simp; omega
        simp only [szN, List.length_append, List.length_map, decide_eq_true_eq]
        omega
      rw [at_n]
      simp only [hz, if_true]
      have es : (C ++ [some (Cell.lst (a0 ++ ((xs.take j).filter f).map h))]).set C.length (some (.lst (a0 ++ ((xs.take j).filter f).map h ++ [h xs[j]]))) = C ++ [some (.lst (a0 ++ ((xs.take j).filter f).map h ++ [h xs[j]]))] := by simp
      rw [es]
      simpa [List.filter_cons, hf] using ih
    | false =>
      rw [if_neg (by decide)]
      simpa [List.filter_cons, hf] using ih
/-- what the two clauses make -/
def flat2 (xs : List D) (ys : D → List D) (f : D → D → Bool) (h : D → D → D) : List D := xs.flatMap fun x => ((ys x).filter (f x)).map (h x)
theorem flat2_len (xs : List D) (ys : D → List D) (f : D → D → Bool) (h : D → D → D) {m : Nat} (hy : ∀ x ∈ xs, (ys x).length ≤ m) : (flat2 xs ys f h).length ≤ xs.length * m := by
  unfold flat2
  induction xs with
  | nil => simp
  | cons x xs ih =>
    have h1 := ih fun y hy' => hy y (List.mem_cons_of_mem _ hy')
    have h2 : (((ys x).filter (f x)).map (h x)).length ≤ m := by
      rw [List.length_map]
      exact Nat.le_trans (List.length_filter_le _ _) (hy x (List.mem_cons_self ..))
    rw [List.flatMap_cons, List.length_append, List.length_cons, Nat.succ_mul]
    omega
theorem lc2_go {it : ItD} {xs : List D} (p : PureIt it xs) {g g1 : MG} {mi1 : MI} {tt1 : MT} {te : ME} {C : Store} {sl : List (Option D)} {vs1 : List Nat} {ys : D → List D} {f : D → D → Bool} {h : D → D → D} {m : Nat} (hy : ∀ x ∈ xs, (ys x).length ≤ m) (sz : xs.length * m ≤ 16000000) (sm : m ≤ 700000)
    (st : ∀ x ∈ xs, ∃ sl1, g x sl = some sl1 ∧ ∀ acc, (∃ it1, PureIt it1 (ys x) ∧ mi1 ⟨C.length, sl1⟩ (C ++ [some (.lst acc)]) = .ok it1 (C ++ [some (.lst acc)])) ∧
      ∀ y ∈ ys x, ∃ sl2, g1 y (wipeD sl1 vs1) = some sl2 ∧ ∀ acc, tt1 ⟨C.length, sl2⟩ (C ++ [some (.lst acc)]) = .ok (f x y) (C ++ [some (.lst acc)]) ∧ (f x y = true → te ⟨C.length, sl2⟩ (C ++ [some (.lst acc)]) = .ok (h x y) (C ++ [some (.lst acc)]))) :
    ∀ r j, r + j = xs.length → lc2N it g tYesM mi1 g1 tt1 te C.length sl vs1 r j (C ++ [some (.lst (flat2 (xs.take j) ys f h))]) = .ok () (C ++ [some (.lst (flat2 xs ys f h))])
  | 0, j, e => by
    have ej : j = xs.length := by omega
    subst ej
    unfold lc2N
    rw [if_pos (p.fin _), List.take_length]
  | r + 1, j, e => by
    have hj : j < xs.length := by omega
    obtain ⟨sl1, h1, h2⟩ := st xs[j] (List.getElem_mem hj)
    have ih := lc2_go p hy sz sm st r (j + 1) (by omega)
    have tk : xs.take (j + 1) = xs.take j ++ [xs[j]] := (List.take_append_getElem hj).symm
    have fl : flat2 (xs.take (j + 1)) ys f h = flat2 (xs.take j) ys f h ++ ((ys xs[j]).filter (f xs[j])).map (h xs[j]) := by
      rw [tk]
      unfold flat2
      rw [List.flatMap_append]
      simp only [List.flatMap_cons, List.flatMap_nil, List.append_nil]
    rw [fl] at ih
    unfold lc2N
    rw [p.item j _ hj, List.getElem?_eq_getElem hj]
    simp only [h1]
    obtain ⟨⟨it1, p1, em⟩, h3⟩ := h2 (flat2 (xs.take j) ys f h)
    show bn0 (R.ok true (C ++ [some (.lst (flat2 (xs.take j) ys f h))])) _ = _
    simp only [bn0_ok, if_true]
    rw [em]
    simp only [bn0_ok]
    have hl : (flat2 (xs.take j) ys f h).length ≤ j * m := by
      have := flat2_len (xs.take j) ys f h (m := m) fun x hx => hy x (List.mem_of_mem_take hx)
      have e2 : (xs.take j).length = j := by simp; omega
      rw [e2] at this
      exact this
    have hl2 : (ys xs[j]).length ≤ m := hy _ (List.getElem_mem hj)
    have hjm : j * m ≤ xs.length * m := Nat.mul_le_mul_right _ (Nat.le_of_lt hj)
    have ein := lc_from p1 (g := g1) (tt := tt1) (te := te) (C := C) (sl := wipeD sl1 vs1) (f := f xs[j]) (h := h xs[j]) (a0 := flat2 (xs.take j) ys f h) (by omega) h3 it1.n 0 (by rw [p1.n]; omega)
    simp only [List.take_zero, List.filter_nil, List.map_nil, List.append_nil] at ein
    rw [ein]
    simp only [bn0_ok]
    exact ih
theorem ev_lc2 {mi mi1 : MI} {it : ItD} {xs : List D} (p : PureIt it xs) {g g1 : MG} {tt1 : MT} {te : ME} {vs vs1 : List Nat} {F : Fr} {C : Store} (ys : D → List D) (f : D → D → Bool) (h : D → D → D) (m : Nat) (hi : mi F C = .ok it C) (hy : ∀ x ∈ xs, (ys x).length ≤ m) (sz : xs.length * m ≤ 16000000) (sm : m ≤ 700000)
    (st : ∀ x ∈ xs, ∃ sl1, g x (wipeD F.sl vs) = some sl1 ∧ ∀ acc, (∃ it1, PureIt it1 (ys x) ∧ mi1 ⟨C.length, sl1⟩ (C ++ [some (.lst acc)]) = .ok it1 (C ++ [some (.lst acc)])) ∧
      ∀ y ∈ ys x, ∃ sl2, g1 y (wipeD sl1 vs1) = some sl2 ∧ ∀ acc, tt1 ⟨C.length, sl2⟩ (C ++ [some (.lst acc)]) = .ok (f x y) (C ++ [some (.lst acc)]) ∧ (f x y = true → te ⟨C.length, sl2⟩ (C ++ [some (.lst acc)]) = .ok (h x y) (C ++ [some (.lst acc)])))
    (hc : ∀ x ∈ xs, ∀ y ∈ ys x, f x y = true → cb C.length (h x y) = true) : mLc2 false mi g tYesM mi1 g1 tt1 te vs vs1 F C = .ok (.lst (flat2 xs ys f h)) C := by
  have e := lc2_go p hy sz sm st it.n 0 (by rw [p.n]; omega)
  unfold mLc2
  rw [hi]
  simp only [bnd_ok]
  have e0 : flat2 (xs.take 0) ys f h = [] := by simp [flat2]
  rw [e0] at e
  rw [e]
  simp only [bn0_ok]
  have at_n : (C ++ [some (Cell.lst (flat2 xs ys f h))])[C.length]? = some (some (.lst (flat2 xs ys f h))) := by simp
  have all : ∀ l : List D, (∀ d ∈ l, cb C.length d = true) → cbL C.length l = true := by
    intro l
    induction l with
    | nil => intro _; rfl
    | cons d l ih =>
      intro hl
      show (cb C.length d && cbL C.length l) = true
      rw [hl d (List.mem_cons_self ..), ih fun x hx => hl x (List.mem_cons_of_mem _ hx)]
      rfl
  have hb : cbL C.length (flat2 xs ys f h) = true := by
    refine all _ fun d hd => ?_
    unfold flat2 at hd
    obtain ⟨x, hx, hd⟩ := List.mem_flatMap.mp hd
    obtain ⟨y, hy', rfl⟩ := List.mem_map.mp hd
    obtain ⟨hy1, hy2⟩ := List.mem_filter.mp hy'
    exact hc x hx y hy1 hy2
  unfold lcEnd
  rw [if_neg (by decide), at_n]
  simp [hb]
/-! ### dicts from pairs to numbers -/
abbrev Dc := List ((Int × Int) × Int)
def dcK (d : Dc) : List (List Key) := d.map fun p => [.inl p.1.1, .inl p.1.2]
def dcV (d : Dc) : List D := d.map fun p => .int p.2
def dg : Dc → Int × Int → Option Int
  | [], _ => none
  | p :: r, k => if p.1 = k then some p.2 else dg r k
def dg0 (d : Dc) (k : Int × Int) : Int := (dg d k).getD 0
def dp (d : Dc) (k : Int × Int) (n : Int) : Dc := if d.any (fun p => decide (p.1 = k)) = true then d.map fun p => if p.1 = k then (p.1, n) else p else d ++ [(k, n)]
theorem key_eq (a b : Int × Int) : ([Sum.inl a.1, Sum.inl a.2] : List Key) = [.inl b.1, .inl b.2] ↔ a = b := by
  constructor
  · intro h
    simp only [List.cons.injEq, Sum.inl.injEq, and_true] at h
    exact Prod.ext h.1 h.2
  · rintro rfl
    rfl
theorem look_dc (k : Int × Int) : ∀ d : Dc, lookT (dcK d) (dcV d) [.inl k.1, .inl k.2] = (dg d k).map .int
  | [] => rfl
  | p :: r => by
    show (if ([.inl p.1.1, .inl p.1.2] : List Key) = [.inl k.1, .inl k.2] then some (D.int p.2) else lookT (dcK r) (dcV r) [.inl k.1, .inl k.2]) = _
    unfold dg
    by_cases h : p.1 = k
    · rw [if_pos ((key_eq _ _).mpr h), if_pos h]
      rfl
    · rw [if_neg (fun e => h ((key_eq _ _).mp e)), if_neg h, look_dc k r]
theorem any_dc (k : Int × Int) (d : Dc) : ((dcK d).any fun x => decide (x = [.inl k.1, .inl k.2])) = d.any fun p => decide (p.1 = k) := by
  unfold dcK
  rw [List.any_map]
  congr 1
  funext p
  exact decide_eq_decide.mpr (key_eq _ _)
theorem set_dc (k : Int × Int) (n : Int) : ∀ d : Dc, setT (dcK d) (dcV d) [.inl k.1, .inl k.2] (.int n) = dcV (d.map fun p => if p.1 = k then (p.1, n) else p)
  | [] => rfl
  | p :: r => by
    show (if ([.inl p.1.1, .inl p.1.2] : List Key) = [.inl k.1, .inl k.2] then D.int n else D.int p.2) :: setT (dcK r) (dcV r) [.inl k.1, .inl k.2] (.int n) = _
    rw [set_dc k n r]
    by_cases h : p.1 = k
    · rw [if_pos ((key_eq _ _).mpr h)]
      simp [dcV, h]
    · rw [if_neg (fun e => h ((key_eq _ _).mp e))]
      simp [dcV, h]
theorem put_dc (d : Dc) (k : Int × Int) (n : Int) : putT (dcK d) (dcV d) [.inl k.1, .inl k.2] (.int n) = (dcK (dp d k n), dcV (dp d k n)) := by
  unfold putT dp
  rw [any_dc]
  split
  · rw [set_dc]
    congr 1
    simp only [dcK, List.map_map]
    apply List.map_congr_left
    intro p _
    simp only [Function.comp]
    split <;> rfl
  · simp [dcK, dcV]
theorem dg_none {k : Int × Int} : ∀ {d : Dc}, d.any (fun p => decide (p.1 = k)) = false → dg d k = none
  | [], _ => rfl
  | p :: r, h => by
    rw [List.any_cons, Bool.or_eq_false_iff] at h
    unfold dg
    rw [if_neg (of_decide_eq_false h.1)]
    exact dg_none h.2
theorem dg_app {k k' : Int × Int} {n : Int} : ∀ d : Dc, dg (d ++ [(k, n)]) k' = match dg d k' with
    | some x => some x
    | none => if k = k' then some n else none
  | [] => rfl
  | p :: r => by
    have e1 : dg ((p :: r) ++ [(k, n)]) k' = if p.1 = k' then some p.2 else dg (r ++ [(k, n)]) k' := rfl
    have e2 : dg (p :: r) k' = if p.1 = k' then some p.2 else dg r k' := rfl
    rw [e1, e2]
    by_cases h : p.1 = k'
    · rw [if_pos h, if_pos h]
    · rw [if_neg h, if_neg h]
      exact dg_app r
theorem dg_map {k k' : Int × Int} {n : Int} : ∀ d : Dc, dg (d.map fun p => if p.1 = k then (p.1, n) else p) k' = if k' = k then (dg d k').map fun _ => n else dg d k'
  | [] => by simp [dg]
  | p :: r => by
    show dg ((if p.1 = k then (p.1, n) else p) :: r.map fun p => if p.1 = k then (p.1, n) else p) k' = _
    by_cases h1 : p.1 = k
    · rw [if_pos h1]
      unfold dg
      by_cases h2 : p.1 = k'
      · have e : k' = k := by rw [← h2, h1]
        simp [h2, e]
      · simp only [if_neg h2]
        exact dg_map r
    · rw [if_neg h1]
      unfold dg
      by_cases h2 : p.1 = k'
      · have e : ¬ k' = k := fun e => h1 (by rw [h2, e])
        simp [h2, e]
      · simp only [if_neg h2]
        exact dg_map r
theorem dg_some_of_any {k : Int × Int} : ∀ {d : Dc}, d.any (fun p => decide (p.1 = k)) = true → ∃ x, dg d k = some x
  | [], h => by cases h
  | p :: r, h => by
    unfold dg
    by_cases e : p.1 = k
    · exact ⟨p.2, if_pos e⟩
    · rw [List.any_cons, decide_eq_false e, Bool.false_or] at h
      obtain ⟨x, hx⟩ := dg_some_of_any h
      exact ⟨x, by rw [if_neg e]; exact hx⟩
theorem dg_dp (d : Dc) (k k' : Int × Int) (n : Int) : dg (dp d k n) k' = if k' = k then some n else dg d k' := by
  unfold dp
  split
  · rename_i h
    rw [dg_map]
    by_cases e : k' = k
    · subst e
      obtain ⟨x, hx⟩ := dg_some_of_any h
      simp [hx]
    · simp [e]
  · rename_i h
    rw [dg_app]
    by_cases e : k' = k
    · subst e
      rw [dg_none (Bool.not_eq_true _ ▸ h : d.any (fun p => decide (p.1 = k')) = false)]
    · have e' : ¬ k = k' := fun z => e z.symm
      cases dg d k' <;> simp [e, e']
theorem dg0_dp (d : Dc) (k k' : Int × Int) (n : Int) : dg0 (dp d k n) k' = if k' = k then n else dg0 d k' := by
  unfold dg0
  rw [dg_dp]
  split <;> rfl
theorem mem_dp {d : Dc} {k : Int × Int} {n : Int} {p : (Int × Int) × Int} (h : p ∈ dp d k n) : p = (k, n) ∨ p ∈ d := by
  unfold dp at h
  split at h
  · obtain ⟨q, hq, e⟩ := List.mem_map.mp h
    by_cases hk : q.1 = k
    · rw [if_pos hk] at e
      rw [← e, hk]
      exact .inl rfl
    · rw [if_neg hk] at e
      rw [← e]
      exact .inr hq
  · rcases List.mem_append.mp h with h | h
    · exact .inr h
    · exact .inl (by simpa using h)
theorem dp_len (d : Dc) (k : Int × Int) (n : Int) : (dp d k n).length ≤ d.length + 1 := by
  unfold dp
  split
  · simp
  · simp
theorem dp_keys (d : Dc) (k : Int × Int) (n : Int) (h : (d.map (·.1)).Nodup) : ((dp d k n).map (·.1)).Nodup := by
  unfold dp
  split
  · have : (d.map fun p => if p.1 = k then (p.1, n) else p).map (·.1) = d.map (·.1) := by
      rw [List.map_map]
      apply List.map_congr_left
      intro p _
      simp only [Function.comp]
      split <;> rfl
    rw [this]
    exact h
  · rename_i hn
    rw [List.map_append, List.nodup_append]
    refine ⟨h, by simp, fun a ha b hb => ?_⟩
    simp only [List.map_cons, List.map_nil, List.mem_singleton] at hb
    subst hb
    rintro rfl
    apply hn
    rw [List.any_eq_true]
    obtain ⟨p, hp, e⟩ := List.mem_map.mp ha
    exact ⟨p, hp, decide_eq_true e⟩
theorem dg_mem {k : Int × Int} {n : Int} : ∀ {d : Dc}, dg d k = some n → (k, n) ∈ d
  | [], h => by cases h
  | p :: r, h => by
    unfold dg at h
    split at h
    · rename_i e
      cases h
      rw [← e]
      exact List.mem_cons_self ..
    · exact List.mem_cons_of_mem _ (dg_mem h)
theorem mem_dg {k : Int × Int} {n : Int} : ∀ {d : Dc}, (d.map (·.1)).Nodup → (k, n) ∈ d → dg d k = some n
  | p :: r, h, hm => by
    rw [List.map_cons, List.nodup_cons] at h
    unfold dg
    rcases List.mem_cons.mp hm with e | hm
    · rw [← e, if_pos rfl]
    · rw [if_neg fun e => h.1 (by rw [e]; exact List.mem_map.mpr ⟨_, hm, rfl⟩)]
      exact mem_dg h.2 hm
end CT
set_option maxHeartbeats 4000000
/-! E3: walks over cells; own operators worked out. -/
namespace CT
open PySem L2
/-- what is walked stays while P holds: these items -/
structure ItOn (P : Store → Prop) (it : ItD) (xs : List D) : Prop where
  n : it.n = xs.length
  item : ∀ j C, P C → j < xs.length → it.item j C = xs[j]?
  fin : ∀ C, P C → it.fin C = true
theorem PureIt.on {it : ItD} {xs : List D} (h : PureIt it xs) (P : Store → Prop) : ItOn P it xs := ⟨h.n, fun j C _ => h.item j C, fun C _ => h.fin C⟩
theorem ItOn.imp {P P' : Store → Prop} {it : ItD} {xs : List D} (h : ItOn P it xs) (q : ∀ C, P' C → P C) : ItOn P' it xs := ⟨h.n, fun j C p => h.item j C (q C p), fun C p => h.fin C (q C p)⟩
theorem ItOn.pairs {P : Store → Prop} {it : ItD} {xs : List D} (h : ItOn P it xs) : ItOn P (prI it) ((List.range xs.length).zip xs |>.map fun p => D.tup [.int (p.1 : Nat), p.2]) := by
  refine ⟨by simp [prI, h.n], fun j C hp hj => ?_, fun C hp => h.fin C hp⟩
  have hj' : j < xs.length := by simpa using hj
  show (it.item j C).map _ = _
  rw [h.item j C hp hj', List.getElem?_map, List.getElem?_eq_getElem hj']
  simp [List.getElem?_zip_eq_some, hj']
theorem loop_on {P : Store → Prop} {it : ItD} {xs : List D} (p : ItOn P it xs) {g : MG} {body : MS} {fl : Nat} (I : Nat → List (Option D) → Store → Prop) (hP : ∀ j sl C, I j sl C → P C)
    (step : ∀ j x sl C, xs[j]? = some x → I j sl C → ∃ sl1 sl2 C2, g x sl = some sl1 ∧ body ⟨fl, sl1⟩ C = .nx sl2 C2 ∧ I (j + 1) sl2 C2) {sl : List (Option D)} {C : Store} (i : I 0 sl C) :
    ∃ sl' C', loopN it g body fl it.n 0 sl C = .nx sl' C' ∧ I xs.length sl' C' := by
  obtain ⟨sl', C', h1, h2⟩ := loop_inv I (fun j sl C hj i => by
    have hj' : j < xs.length := by rw [← p.n]; exact hj
    obtain ⟨sl1, sl2, C2, h1, h2, h3⟩ := step j xs[j] sl C (List.getElem?_eq_getElem hj') i
    exact ⟨xs[j], sl1, sl2, C2, by rw [p.item j C (hP _ _ _ i) hj', List.getElem?_eq_getElem hj'], h1, h2, h3⟩) (fun sl C i => p.fin C (hP _ _ _ i)) it.n 0 sl C (by omega) i
  exact ⟨sl', C', h1, by rw [← p.n]; exact h2⟩
/-- d is walked as xs wherever the store begins by C -/
def SeqIn (d : D) (xs : List D) (C : Store) : Prop := ∃ it, (∀ Y, itS d (C ++ Y) = some it) ∧ ItOn (fun S => ∃ Y, S = C ++ Y) it xs
theorem SeqIn.app {d : D} {xs : List D} {C : Store} (h : SeqIn d xs C) (Z : Store) : SeqIn d xs (C ++ Z) := by
  obtain ⟨it, h1, h2⟩ := h
  exact ⟨it, fun Y => by rw [List.append_assoc]; exact h1 _, h2.imp fun S ⟨Y, e⟩ => ⟨Z ++ Y, by rw [e, List.append_assoc]⟩⟩
theorem SeqIn.at0 {d : D} {xs : List D} {C : Store} (h : SeqIn d xs C) : ∃ it, itS d C = some it ∧ ItOn (fun S => ∃ Y, S = C ++ Y) it xs := by
  obtain ⟨it, h1, h2⟩ := h
  have := h1 []
  rw [List.append_nil] at this
  exact ⟨it, this, h2⟩
theorem seq_of {d : D} {xs : List D} (h : ∀ C, itS d C = some (itC xs)) (C : Store) : SeqIn d xs C := ⟨itC xs, fun Y => h _, (pure_C xs).on _⟩
theorem seq_cell {i : Nat} {xs : List D} {C : Store} (h : C[i]? = some (some (.lst xs))) : SeqIn (.cell i) xs C := by
  have hi : i < C.length := (List.getElem?_eq_some_iff.mp h).1
  have at_ : ∀ Y : Store, (C ++ Y)[i]? = some (some (.lst xs)) := fun Y => by rw [List.getElem?_append_left hi]; exact h
  refine ⟨itV i xs.length, fun Y => ?_, rfl, ?_, ?_⟩
  · show (match (C ++ Y)[i]? with
      | some (some (.lst ys)) => some (itV i ys.length)
      | _ => none) = _
    rw [at_]
  · rintro j S ⟨Y, rfl⟩ hj
    simp [itV, at_]
  · rintro S ⟨Y, rfl⟩
    simp [itV, at_]
/-! ### own operators -/
@[simp] theorem ev_revT {m : ME} {F : Fr} {C C1 : Store} {xs : List D} (h : m F C = .ok (.tup xs) C1) : mRevT m F C = .ok (.tup xs.reverse) C1 := by
  unfold mRevT
  rw [h]
  rfl
end CT
set_option maxHeartbeats 4000000
/-! M2: sums of ties, grids, webs. -/
namespace CL
open PySem L2 CT
abbrev T3 := Int × Int × Int
def triD (t : T3) : D := .tup [.int t.1, .int t.2.1, .int t.2.2]
def pr (t : T3) : Int × Int := (min t.1 t.2.1, max t.1 t.2.1)
def addT (d : Dc) (t : T3) : Dc := dp d (pr t) (dg0 d (pr t) + t.2.2)
def sums (L : List T3) : Dc := L.foldl addT []
def IsSeq (d : D) (xs : List D) : Prop := ∀ C, itS d C = some (itC xs)
theorem seq_lst (xs : List D) : IsSeq (.lst xs) xs := fun _ => rfl
theorem seq_tup (xs : List D) : IsSeq (.tup xs) xs := fun _ => rfl
theorem seq_kt (xs : List D) : IsSeq (.kt xs) xs := fun _ => rfl
/-! ### d[k] = v -/
def puK4 (F : Fr) (v o x : D) (C3 : Store) : RS := match x, cD o C3 with
  | .tup ds, some (i, ks, vs) => match keyL ds with
    | some key => if szN (ks.length + 1) = true then match wr F.fl i (.dT (putT ks vs key v).1 (putT ks vs key v).2) C3 with
      | some C4 => .nx F.sl C4
      | none => .stuck
      else .stuck
    | none => .stuck
  | _, _ => .stuck
def puK3 (F : Fr) (v o : D) (m : R D) : RS := bndS F.sl m fun x C3 => puK4 F v o x C3
@[simp] theorem puK3_ok (F : Fr) (v o x : D) (C : Store) : puK3 F v o (.ok x C) = puK4 F v o x C := rfl
def puK2 (mi : ME) (F : Fr) (v : D) (m : R D) : RS := bndS F.sl m fun o C2 => puK3 F v o (mi F C2)
@[simp] theorem puK2_ok (mi : ME) (F : Fr) (v o : D) (C : Store) : puK2 mi F v (.ok o C) = puK3 F v o (mi F C) := rfl
def puK (mo mi : ME) (F : Fr) (m : R D) : RS := bndS F.sl m fun v C1 => puK2 mi F v (mo F C1)
@[simp] theorem puK_ok (mo mi : ME) (F : Fr) (v : D) (C : Store) : puK mo mi F (.ok v C) = puK2 mi F v (mo F C) := rfl
@[simp] theorem ev_put (me mo mi : ME) (F : Fr) (C : Store) : sPut me mo mi F C = puK mo mi F (me F C) := rfl
@[simp] theorem keyL2 (a b : Int) : keyL [.int a, .int b] = some [.inl a, .inl b] := rfl
theorem put_at {F : Fr} {C : Store} {i : Nat} {d : Dc} {a b v : Int} (hC : C[i]? = some (some (.dT (dcK d) (dcV d)))) (hz : d.length < 16777216) (hf : F.fl ≤ i ∨ True) :
    puK4 F (.int v) (.cell i) (.tup [.int a, .int b]) C = .nx F.sl (C.set i (some (.dT (dcK (dp d (a, b) v)) (dcV (dp d (a, b) v))))) := by
  have e := put_dc d (a, b) v
  have z : szN ((dcK d).length + 1) = true := by simp [szN, dcK]; omega
  have c0 : cbC 0 (.dT (dcK (dp d (a, b) v)) (dcV (dp d (a, b) v))) = true := by
    show cbL 0 (dcV (dp d (a, b) v)) = true
    unfold dcV
    have := cbL_ints 0 ((dp d (a, b) v).map (·.2))
    rw [List.map_map] at this
    exact this
  have w : wr F.fl i (.dT (dcK (dp d (a, b) v)) (dcV (dp d (a, b) v))) C = some (C.set i (some (.dT (dcK (dp d (a, b) v)) (dcV (dp d (a, b) v))))) := by
    unfold wr
    rw [if_neg (fun h => by rw [c0] at h; cases h.2)]
  simp only [puK4, cD, hC, keyL2, z, if_true]
  simp only at e
  rw [e]
  simp only [w]
theorem get_at {x : D} {C : Store} {d : Dc} {a b : Int} (h : vD x C = some (dcK d, dcV d)) : oDGet x (.tup [.int a, .int b]) (.int 0) C = some (.int (dg0 d (a, b)), C) := by
  have e := look_dc (a, b) d
  simp only at e
  simp only [oDGet, h, keyL2, Option.bind_some, Option.map_some]
  rw [e]
  unfold dg0
  cases dg d (a, b) <;> rfl
theorem ix_at {x : D} {C : Store} {d : Dc} {a b n : Int} (h : vD x C = some (dcK d, dcV d)) (hn : dg d (a, b) = some n) : oDIx x (.tup [.int a, .int b]) C = some (.int n, C) := by
  have e := look_dc (a, b) d
  simp only at e
  simp only [oDIx, h, keyL2, Option.bind_some]
  rw [e, hn]
  rfl
theorem sums_take (L : List T3) (j : Nat) (t : T3) (h : L[j]? = some t) : sums (L.take (j + 1)) = addT (sums (L.take j)) t := by
  have hj : j < L.length := (List.getElem?_eq_some_iff.mp h).1
  have e : L.take (j + 1) = L.take j ++ [t] := by
    rw [← (List.getElem?_eq_some_iff.mp h).2]
    exact (List.take_append_getElem hj).symm
  unfold sums
  rw [e, List.foldl_append]
  rfl
theorem sums_len : ∀ (L : List T3) (d : Dc), (L.foldl addT d).length ≤ d.length + L.length
  | [], d => by simp
  | t :: L, d => by
    have h1 := sums_len L (addT d t)
    have h2 : (addT d t).length ≤ d.length + 1 := dp_len _ _ _
    simp only [List.foldl_cons, List.length_cons]
    omega
theorem summed_ok {d : D} {L : List T3} {C : Store} (hd : SeqIn d (L.map triD) C) (hl : L.length ≤ 1000000) : m_summed [d] C = .ok (.dT (dcK (sums L)) (dcV (sums L))) C := by
  obtain ⟨it, hit, pit⟩ := hd
  rw [e_summed, b_summed, ev_seq]
  have e0 : b_summed_0 ⟨C.length, [some d, none, none, none, none, none]⟩ C = .nx [some d, some (.cell C.length), none, none, none, none] (C ++ [some (.dT [] [])]) := by
    simp [b_summed_0, mDNew, mkD]
  rw [e0, seqK_nx, ev_seq, b_summed_1, ev_for]
  rw [ev_seqI (d := d) (it := it) (by simp) (hit _), forK_ok]
  obtain ⟨sl', C', h1, h2⟩ := loop_on pit (g := (Tgt.tp [2, 3, 4]).M) (body := sSeq b_summed_1b_0 b_summed_1b_1) (fl := C.length)
    (fun j sl St => St = C ++ [some (.dT (dcK (sums (L.take j))) (dcV (sums (L.take j))))] ∧ ∃ s2 s3 s4 s5, sl = [some d, some (.cell C.length), s2, s3, s4, s5])
    (fun j sl St hi => ⟨_, hi.1⟩)
    (fun j x sl St hx hi => by
      obtain ⟨rfl, s2, s3, s4, s5, rfl⟩ := hi
      rw [List.getElem?_map, Option.map_eq_some_iff] at hx
      obtain ⟨t, ht, rfl⟩ := hx
      have at_n : ∀ c : Option Cell, (C ++ [c])[C.length]? = some c := fun c => by simp
      have hv : vD (.cell C.length) (C ++ [some (.dT (dcK (sums (L.take j))) (dcV (sums (L.take j))))]) = some (dcK (sums (L.take j)), dcV (sums (L.take j))) := by
        simp only [vD, at_n]
      have hz : (sums (L.take j)).length < 16777216 := by
        have h1 := sums_len (L.take j) []
        have h2 : (L.take j).length ≤ L.length := by simp; omega
        have h3 : (sums (L.take j)).length ≤ ([] : Dc).length + (L.take j).length := h1
        simp only [List.length_nil] at h3
        omega
      refine ⟨[some d, some (.cell C.length), some (.int t.1), some (.int t.2.1), some (.int t.2.2), s5], [some d, some (.cell C.length), some (.int t.1), some (.int t.2.1), some (.int t.2.2), some (.tup [.int (pr t).1, .int (pr t).2])], C ++ [some (.dT (dcK (addT (sums (L.take j)) t)) (dcV (addT (sums (L.take j)) t)))], by simp [triD], ?_, ?_, _, _, _, _, rfl⟩
      · rw [ev_seq]
        have eb : b_summed_1b_0 ⟨C.length, [some d, some (.cell C.length), some (.int t.1), some (.int t.2.1), some (.int t.2.2), s5]⟩ (C ++ [some (.dT (dcK (sums (L.take j))) (dcV (sums (L.take j))))]) =
            .nx [some d, some (.cell C.length), some (.int t.1), some (.int t.2.1), some (.int t.2.2), some (.tup [.int (pr t).1, .int (pr t).2])] (C ++ [some (.dT (dcK (sums (L.take j))) (dcV (sums (L.take j))))]) := by
          simp [b_summed_1b_0, oTup, szN, pr]
        rw [eb, seqK_nx]
        have hs : (vD (.cell C.length) (C ++ [some (.dT (dcK (sums (L.take j))) (dcV (sums (L.take j))))])).isSome = true := by rw [hv]; rfl
        simp only [b_summed_1b_1, ev_put, ev_op, ev_dget, ev_var, List.getElem?_cons_succ, List.getElem?_cons_zero, getV_some, getK_ok _ _ _ hs, getK2_ok, ev_c, getK3_ok, get_at hv, ev_ofO_some, opK_ok, opK2_ok, ev_add, puK_ok, puK2_ok, puK3_ok]
        rw [put_at (at_n _) hz (.inr trivial)]
        simp [addT]
      · rw [sums_take L j t ht])
    (sl := [some d, some (.cell C.length), none, none, none, none]) (C := C ++ [some (.dT [] [])]) ⟨rfl, _, _, _, _, rfl⟩
  rw [h1, seqK_nx]
  obtain ⟨rfl, s2, s3, s4, s5, rfl⟩ := h2
  have hL : L.take (L.map triD).length = L := by rw [List.length_map, List.take_length]
  rw [hL]
  have at_n : ∀ c : Option Cell, (C ++ [c])[C.length]? = some c := fun c => by simp
  have cv : cbL C.length (dcV (sums L)) = true := by
    unfold dcV
    have := cbL_ints C.length ((sums L).map (·.2))
    rw [List.map_map] at this
    exact this
  simp [b_summed_2, fin, fz, cb, cv]
theorem law_sums_ok {d : D} {L : List T3} {C : Store} (hd : SeqIn d (L.map triD) C) (hl : L.length ≤ 1000000) : m_law_sums [d] C = .ok (.dT (dcK (sums L)) (dcV (sums L))) C := by
  obtain ⟨it, hit, pit⟩ := hd
  rw [e_law_sums, b_law_sums, ev_seq]
  have e0 : b_law_sums_0 ⟨C.length, [some d, none, none, none, none, none]⟩ C = .nx [some d, some (.cell C.length), none, none, none, none] (C ++ [some (.dT [] [])]) := by
    simp [b_law_sums_0, mDNew, mkD]
  rw [e0, seqK_nx, ev_seq, b_law_sums_1, ev_for]
  rw [ev_seqI (d := d) (it := it) (by simp) (hit _), forK_ok]
  obtain ⟨sl', C', h1, h2⟩ := loop_on pit (g := (Tgt.tp [2, 3, 4]).M) (body := sSeq b_law_sums_1b_0 b_law_sums_1b_1) (fl := C.length)
    (fun j sl St => St = C ++ [some (.dT (dcK (sums (L.take j))) (dcV (sums (L.take j))))] ∧ ∃ s2 s3 s4 s5, sl = [some d, some (.cell C.length), s2, s3, s4, s5])
    (fun j sl St hi => ⟨_, hi.1⟩)
    (fun j x sl St hx hi => by
      obtain ⟨rfl, s2, s3, s4, s5, rfl⟩ := hi
      rw [List.getElem?_map, Option.map_eq_some_iff] at hx
      obtain ⟨t, ht, rfl⟩ := hx
      have at_n : ∀ c : Option Cell, (C ++ [c])[C.length]? = some c := fun c => by simp
      have hv : vD (.cell C.length) (C ++ [some (.dT (dcK (sums (L.take j))) (dcV (sums (L.take j))))]) = some (dcK (sums (L.take j)), dcV (sums (L.take j))) := by
        simp only [vD, at_n]
      have hz : (sums (L.take j)).length < 16777216 := by
        have h1 := sums_len (L.take j) []
        have h2 : (L.take j).length ≤ L.length := by simp; omega
        have h3 : (sums (L.take j)).length ≤ ([] : Dc).length + (L.take j).length := h1
        simp only [List.length_nil] at h3
        omega
      refine ⟨[some d, some (.cell C.length), some (.int t.1), some (.int t.2.1), some (.int t.2.2), s5], [some d, some (.cell C.length), some (.int t.1), some (.int t.2.1), some (.int t.2.2), some (.tup [.int (pr t).1, .int (pr t).2])], C ++ [some (.dT (dcK (addT (sums (L.take j)) t)) (dcV (addT (sums (L.take j)) t)))], by simp [triD], ?_, ?_, _, _, _, _, rfl⟩
      · rw [ev_seq]
        have eb : b_law_sums_1b_0 ⟨C.length, [some d, some (.cell C.length), some (.int t.1), some (.int t.2.1), some (.int t.2.2), s5]⟩ (C ++ [some (.dT (dcK (sums (L.take j))) (dcV (sums (L.take j))))]) =
            .nx [some d, some (.cell C.length), some (.int t.1), some (.int t.2.1), some (.int t.2.2), some (.tup [.int (pr t).1, .int (pr t).2])] (C ++ [some (.dT (dcK (sums (L.take j))) (dcV (sums (L.take j))))]) := by
          simp [b_law_sums_1b_0, oTup, szN, pr]
        rw [eb, seqK_nx]
        have hs : (vD (.cell C.length) (C ++ [some (.dT (dcK (sums (L.take j))) (dcV (sums (L.take j))))])).isSome = true := by rw [hv]; rfl
        simp only [b_law_sums_1b_1, ev_put, ev_op, ev_dget, ev_var, List.getElem?_cons_succ, List.getElem?_cons_zero, getV_some, getK_ok _ _ _ hs, getK2_ok, ev_c, getK3_ok, get_at hv, ev_ofO_some, opK_ok, opK2_ok, ev_add, puK_ok, puK2_ok, puK3_ok]
        rw [put_at (at_n _) hz (.inr trivial)]
        simp [addT]
      · rw [sums_take L j t ht])
    (sl := [some d, some (.cell C.length), none, none, none, none]) (C := C ++ [some (.dT [] [])]) ⟨rfl, _, _, _, _, rfl⟩
  rw [h1, seqK_nx]
  obtain ⟨rfl, s2, s3, s4, s5, rfl⟩ := h2
  have hL : L.take (L.map triD).length = L := by rw [List.length_map, List.take_length]
  rw [hL]
  have at_n : ∀ c : Option Cell, (C ++ [c])[C.length]? = some c := fun c => by simp
  have cv : cbL C.length (dcV (sums L)) = true := by
    unfold dcV
    have := cbL_ints C.length ((sums L).map (·.2))
    rw [List.map_map] at this
    exact this
  simp [b_law_sums_2, fin, fz, cb, cv]
end CL
set_option maxHeartbeats 4000000
/-! M3: a web is made. -/
namespace CL
open PySem L2 CT
@[simp] theorem getK_dT (b c : ME) (F : Fr) (ks : List (List Key)) (vs : List D) (C : Store) : getK b c F (.ok (.dT ks vs) C) = getK2 c F (.dT ks vs) (b F C) := rfl
def ValidT (N : Nat) (t : T3) : Prop := 0 ≤ t.1 ∧ t.1 < N ∧ 0 ≤ t.2.1 ∧ t.2.1 < N ∧ t.1 ≠ t.2.1 ∧ 0 ≤ t.2.2 ∧ t.2.2 ≤ 1000000000
theorem is_tie_true {N : Nat} {t : T3} (h : ValidT N t) (C : Store) : m_is_tie [.int N, triD t] C = .ok (.bl true) C := by
  obtain ⟨h1, h2, h3, h4, h5, h6, h7⟩ := h
  have a1 : t.1 ≤ (N : Int) - 1 := by omega
  have a2 : t.2.1 ≤ (N : Int) - 1 := by omega
  simp [e_is_tie, b_is_tie, b_is_tie_0, b_is_tie_1, b_is_tie_2, b_is_tie_3, isi, tyD, isaT, oLen, vS, triD, is_count_int, h1, h3, h5, h6, h7, a1, a2]
def rowsOf (N : Nat) (f : Int × Int → Int) : List (List Int) := (List.range N).map fun u : Nat => (List.range N).map fun v : Nat => f (min (u : Int) (v : Int), max (u : Int) (v : Int))
def gridD (G : List (List Int)) : D := .lst (G.map fun r => .lst (r.map .int))
def asI : D → Int
  | .int i => i
  | _ => 0
theorem filter_yes {α : Type} (l : List α) : l.filter (fun _ => true) = l := List.filter_eq_self.mpr fun _ _ => rfl
theorem rng_all (N : Nat) (h : D → D) : ((rngI 0 N).filter fun _ => true).map h = (List.range N).map fun u => h (.int (u : Nat)) := by
  rw [filter_yes, rngI, List.map_map]
  apply List.map_congr_left
  intro a _
  simp
theorem mem_rng {lo : Int} {N : Nat} {x : D} (h : x ∈ rngI lo N) : ∃ u : Nat, u < N ∧ x = .int (lo + u) := by
  unfold rngI at h
  obtain ⟨u, hu, rfl⟩ := List.mem_map.mp h
  exact ⟨u, List.mem_range.mp hu, rfl⟩
theorem inR_nat {N : Nat} (h : N ≤ 1000) : inR (N : Int) = true := by
  simp only [inR, Bool.and_eq_true, decide_eq_true_eq]
  omega
theorem cbL_all {n : Nat} : ∀ {l : List D}, (∀ d ∈ l, cb n d = true) → cbL n l = true
  | [], _ => rfl
  | d :: l, h => by
    show (cb n d && cbL n l) = true
    rw [h d (List.mem_cons_self ..), cbL_all fun x hx => h x (List.mem_cons_of_mem _ hx)]
    rfl
theorem grid_of_ok {d : D} {L : List T3} {C : Store} {N : Nat} (hN : N ≤ 60) (hd : SeqIn d (L.map triD) C) (hl : L.length ≤ 1000000) : m_grid_of [.int N, d] C = .ok (gridD (rowsOf N (dg0 (sums L)))) C := by
  rw [e_grid_of, b_grid_of, ev_seq]
  have e0 : b_grid_of_0 ⟨C.length, [some (.int N), some d, none, none, none]⟩ C = .nx [some (.int N), some d, some (.dT (dcK (sums L)) (dcV (sums L))), none, none] C := by
    simp [b_grid_of_0, summed_ok hd hl]
  rw [e0, seqK_nx]
  have inner : ∀ (u : Int) (C' : Store), mLc false (mRng1 (mVar 0)) (Tgt.nm 4).M tYesM (mDGet (mVar 2) (mAp oTup (mCons (mAp oMin2 (mCons (mVar 3) (mCons (mVar 4) mNil))) (mCons (mAp oMax2 (mCons (mVar 3) (mCons (mVar 4) mNil))) mNil))) (mC (.int 0))) [4]
      ⟨C.length, [some (.int N), some d, some (.dT (dcK (sums L)) (dcV (sums L))), some (.int u), none]⟩ C' = .ok (.lst (((List.range N).map fun v : Nat => dg0 (sums L) (min u (v : Int), max u (v : Int))).map .int)) C' := fun u C' => by
    rw [ev_lc (pure_R 0 N) (fun _ => true) (fun x => .int (dg0 (sums L) (min u (asI x), max u (asI x)))) (by rw [ev_rng1 (j := (N : Int)) (by simp) (inR_nat (by omega))]; simp) (by simp [rngI]; omega)
      (fun x hx => by
        obtain ⟨v, hv, rfl⟩ := mem_rng hx
        refine ⟨[some (.int N), some d, some (.dT (dcK (sums L)) (dcV (sums L))), some (.int u), some (.int (0 + (v : Int)))], by simp, fun acc => ⟨rfl, fun _ => ?_⟩⟩
        simp [oTup, szN, asI, get_at (x := .dT (dcK (sums L)) (dcV (sums L))) rfl])
      (fun x hx _ => rfl)]
    rw [rng_all, List.map_map]
    rfl
  have e1 : mLc false (mRng1 (mVar 0)) (Tgt.nm 3).M tYesM (mLc false (mRng1 (mVar 0)) (Tgt.nm 4).M tYesM (mDGet (mVar 2) (mAp oTup (mCons (mAp oMin2 (mCons (mVar 3) (mCons (mVar 4) mNil))) (mCons (mAp oMax2 (mCons (mVar 3) (mCons (mVar 4) mNil))) mNil))) (mC (.int 0))) [4]) [3]
      ⟨C.length, [some (.int N), some d, some (.dT (dcK (sums L)) (dcV (sums L))), none, none]⟩ C = .ok (gridD (rowsOf N (dg0 (sums L)))) C := by
    rw [ev_lc (pure_R 0 N) (fun _ => true) (fun x => .lst (((List.range N).map fun v : Nat => dg0 (sums L) (min (asI x) (v : Int), max (asI x) (v : Int))).map .int)) (by rw [ev_rng1 (j := (N : Int)) (by simp) (inR_nat (by omega))]; simp) (by simp [rngI]; omega)
      (fun x hx => by
        obtain ⟨u, hu, rfl⟩ := mem_rng hx
        refine ⟨[some (.int N), some d, some (.dT (dcK (sums L)) (dcV (sums L))), some (.int (0 + (u : Int))), none], by simp, fun acc => ⟨rfl, fun _ => ?_⟩⟩
        exact inner (0 + (u : Int)) _)
      (fun x hx _ => cbL_ints _ _)]
    rw [rng_all]
    simp [gridD, rowsOf, asI, List.map_map]
  have cg : cb C.length (gridD (rowsOf N (dg0 (sums L)))) = true := by
    show cbL C.length _ = true
    refine cbL_all fun d hd => ?_
    obtain ⟨r, hr, rfl⟩ := List.mem_map.mp hd
    exact cbL_ints _ _
  rw [b_grid_of_1, ev_sret, e1, retK_ok, finS_rt]
  show (if cb C.length (gridD (rowsOf N (dg0 (sums L)))) = true then R.ok (gridD (rowsOf N (dg0 (sums L)))) (C.take C.length) else .stuck) = _
  rw [if_pos cg, List.take_length]
end CL
set_option maxHeartbeats 4000000
/-! M4: Web(size, ties). -/
namespace CL
open PySem L2 CT
def pairsL (N : Nat) : List (Int × Int) := (List.range N).flatMap fun u : Nat => (List.range (N - (u + 1))).map fun w : Nat => ((u : Int), ((u + 1 + w : Nat) : Int))
def tiesL (N : Nat) (f : Int × Int → Int) : List T3 := ((pairsL N).filter fun p => decide (0 < f p)).map fun p => (p.1, p.2, f p)
def webD (N : Nat) (f : Int × Int → Int) : D := .obj 0 [.int N, gridD (rowsOf N f), .tup ((tiesL N f).map triD)]
def pD (p : Int × Int) : D := .tup [.int p.1, .int p.2]
theorem mem_pairs {N : Nat} {p : Int × Int} : p ∈ pairsL N ↔ ∃ u v : Nat, u < v ∧ v < N ∧ p = ((u : Int), (v : Int)) := by
  unfold pairsL
  rw [List.mem_flatMap]
  constructor
  · rintro ⟨u, hu, hp⟩
    obtain ⟨w, hw, rfl⟩ := List.mem_map.mp hp
    have := List.mem_range.mp hu
    have := List.mem_range.mp hw
    exact ⟨u, u + 1 + w, by omega, by omega, rfl⟩
  · rintro ⟨u, v, h1, h2, rfl⟩
    refine ⟨u, List.mem_range.mpr (by omega), List.mem_map.mpr ⟨v - (u + 1), List.mem_range.mpr (by omega), ?_⟩⟩
    have e : u + 1 + (v - (u + 1)) = v := by omega
    rw [e]
theorem grid_ix {N : Nat} {f : Int × Int → Int} {u : Nat} (hu : u < N) (C : Store) : oIx (gridD (rowsOf N f)) (.int u) C = some (.lst (((List.range N).map fun v : Nat => f (min (u : Int) (v : Int), max (u : Int) (v : Int))).map .int), C) := by
  simp [oIx, vS, gridD, rowsOf, atI, ixN, hu]
theorem row_ix {N : Nat} {g : Nat → Int} {v : Nat} (hv : v < N) (C : Store) : oIx (.lst (((List.range N).map g).map .int)) (.int v) C = some (.int (g v), C) := by
  simp [oIx, vS, atI, ixN, hv]
theorem anyF {C : Store} {l : List D} (h : ∀ d ∈ l, d = .bl false) : oAny [.lst l] C = some (.bl false, C) := by
  have e : dBools l = some (l.map fun _ => false) := by
    induction l with
    | nil => rfl
    | cons d l ih =>
      have h1 := h d (List.mem_cons_self ..)
      subst h1
      simp [dBools, ih fun x hx => h x (List.mem_cons_of_mem _ hx)]
  simp [oAny, vL, e]
def big : D → Bool
  | .int n => decide (1000000000 < n)
  | _ => false
theorem flatMap_cg {α β : Type} {f g : α → List β} : ∀ {l : List α}, (∀ x ∈ l, f x = g x) → l.flatMap f = l.flatMap g
  | [], _ => rfl
  | x :: l, h => by rw [List.flatMap_cons, List.flatMap_cons, h x (List.mem_cons_self ..), flatMap_cg fun y hy => h y (List.mem_cons_of_mem _ hy)]
def itemsD : D → List D
  | .lst l => l
  | _ => []
theorem rows_len {N : Nat} {f : Int × Int → Int} {r : List Int} (h : r ∈ rowsOf N f) : r.length = N ∧ ∀ x ∈ r, ∃ u v : Nat, u < N ∧ v < N ∧ x = f (min (u : Int) (v : Int), max (u : Int) (v : Int)) := by
  unfold rowsOf at h
  obtain ⟨u, hu, rfl⟩ := List.mem_map.mp h
  refine ⟨by simp, fun x hx => ?_⟩
  obtain ⟨v, hv, rfl⟩ := List.mem_map.mp hx
  exact ⟨u, v, List.mem_range.mp hu, List.mem_range.mp hv, rfl⟩
/-- d is a list or a tuple of these items, perhaps a cell -/
def SeqD (d : D) (xs : List D) (C : Store) : Prop := d = .lst xs ∨ d = .tup xs ∨ d = .kt xs ∨ ∃ i, d = .cell i ∧ C[i]? = some (some (.lst xs))
theorem SeqD.app {d : D} {xs : List D} {C : Store} (h : SeqD d xs C) (Z : Store) : SeqD d xs (C ++ Z) := by
  rcases h with h | h | h | ⟨i, h, e⟩
  · exact .inl h
  · exact .inr (.inl h)
  · exact .inr (.inr (.inl h))
  · exact .inr (.inr (.inr ⟨i, h, by rw [List.getElem?_append_left (List.getElem?_eq_some_iff.mp e).1]; exact e⟩))
theorem SeqD.seq {d : D} {xs : List D} {C : Store} (h : SeqD d xs C) : SeqIn d xs C := by
  rcases h with rfl | rfl | rfl | ⟨i, rfl, e⟩
  · exact seq_of (seq_lst xs) C
  · exact seq_of (seq_tup xs) C
  · exact seq_of (seq_kt xs) C
  · exact seq_cell e
section
variable {N : Nat} {L : List T3} {C : Store} {d : D}
abbrev fL (L : List T3) : Int × Int → Int := dg0 (sums L)
theorem init_0 {sl : List (Option D)} {fl : Nat} (hN : N ≤ 60) (h : sl[1]? = some (some (.int N))) : b_Web__init_0 ⟨fl, sl⟩ C = .nx sl C := by
  have h60 : (N : Int) ≤ 60 := by omega
  simp [b_Web__init_0, h, is_count_int, h60]
theorem init_1 {sl : List (Option D)} {fl : Nat} {xs : List D} (h : sl[2]? = some (some d)) (hd : SeqD d xs C) : b_Web__init_1 ⟨fl, sl⟩ C = .nx sl C := by
  rcases hd with rfl | rfl | rfl | ⟨i, rfl, e⟩
  · simp [b_Web__init_1, h, mIsi2, isi, tyD, isaT]
  · simp [b_Web__init_1, h, mIsi2, isi, tyD, isaT]
  · simp [b_Web__init_1, h, mIsi2, isi, tyD, isaT]
  · simp [b_Web__init_1, h, mIsi2, isi, tyD, isaT, e]
theorem init_2 {fl i : Nat} (hs : SeqIn d (L.map triD) C) (hv : ∀ t ∈ L, ValidT N t) : ∃ s3 s4, b_Web__init_2 ⟨fl, [some (.cell i), some (.int N), some d, none, none, none, none, none, none, none, none]⟩ C = .nx [some (.cell i), some (.int N), some d, s3, s4, none, none, none, none, none, none] C := by
  obtain ⟨it, hit, pit⟩ := hs.at0
  rw [b_Web__init_2, ev_for, ev_enum (d := d) (it := it) (by simp) hit, forK_ok]
  obtain ⟨sl', C', h1, h2⟩ := loop_on pit.pairs (g := (Tgt.tp [3, 4]).M) (body := b_Web__init_2b_0) (fl := fl)
    (fun j sl St => St = C ∧ ∃ s3 s4, sl = [some (.cell i), some (.int N), some d, s3, s4, none, none, none, none, none, none])
    (fun j sl St hi => ⟨[], by rw [hi.1, List.append_nil]⟩)
    (fun j x sl St hx hi => by
      obtain ⟨rfl, s3, s4, rfl⟩ := hi
      rw [List.getElem?_map, Option.map_eq_some_iff] at hx
      obtain ⟨⟨a, y⟩, hy, rfl⟩ := hx
      obtain ⟨_, hy2⟩ := List.getElem?_zip_eq_some.mp hy
      rw [List.getElem?_map, Option.map_eq_some_iff] at hy2
      obtain ⟨t, ht, rfl⟩ := hy2
      refine ⟨[some (.cell i), some (.int N), some d, some (.int a), some (triD t), none, none, none, none, none, none], [some (.cell i), some (.int N), some d, some (.int a), some (triD t), none, none, none, none, none, none], St, by simp, ?_, rfl, _, _, rfl⟩
      simp [b_Web__init_2b_0, is_tie_true (hv t (List.mem_of_getElem? ht))])
    (sl := [some (.cell i), some (.int N), some d, none, none, none, none, none, none, none, none]) (C := C) ⟨rfl, _, _, rfl⟩
  obtain ⟨rfl, s3, s4, rfl⟩ := h2
  exact ⟨s3, s4, h1⟩
theorem init_3 {fl i : Nat} {s3 s4 : Option D} (hN : N ≤ 60) (hs : SeqIn d (L.map triD) C) (hl : L.length ≤ 1000000) : b_Web__init_3 ⟨fl, [some (.cell i), some (.int N), some d, s3, s4, none, none, none, none, none, none]⟩ C =
    .nx [some (.cell i), some (.int N), some d, s3, s4, some (gridD (rowsOf N (fL L))), none, none, none, none, none] C := by
  simp [b_Web__init_3, grid_of_ok hN hs hl]
theorem init_4 {fl i : Nat} {s3 s4 : Option D} {f : Int × Int → Int} (hN : N ≤ 60) (hf : ∀ u v : Nat, u < N → v < N → f (min (u : Int) (v : Int), max (u : Int) (v : Int)) ≤ 1000000000) :
    b_Web__init_4 ⟨fl, [some (.cell i), some (.int N), some d, s3, s4, some (gridD (rowsOf N f)), none, none, none, none, none]⟩ C = .nx [some (.cell i), some (.int N), some d, s3, s4, some (gridD (rowsOf N f)), none, none, none, none, none] C := by
  have e : mLc2 false (mSeq (mVar 5)) (Tgt.nm 7).M tYesM (mSeq (mVar 7)) (Tgt.nm 8).M tYesM (mOp oGt (mVar 8) (mC (.int 1000000000))) [7, 8] [8] ⟨fl, [some (.cell i), some (.int N), some d, s3, s4, some (gridD (rowsOf N f)), none, none, none, none, none]⟩ C =
      .ok (.lst (flat2 ((rowsOf N f).map fun r => .lst (r.map .int)) itemsD (fun _ _ => true) fun _ y => .bl (big y))) C := by
    refine ev_lc2 (pure_C ((rowsOf N f).map fun r => D.lst (r.map .int))) itemsD (fun _ _ => true) (fun _ y => .bl (big y)) 60 ?_ (fun x hx => ?_) ?_ (by omega) (fun x hx => ?_) (fun _ _ _ _ _ => rfl)
    · exact ev_seqI (d := gridD (rowsOf N f)) (by simp) rfl
    · obtain ⟨r, hr, rfl⟩ := List.mem_map.mp hx
      show (r.map D.int).length ≤ 60
      rw [List.length_map, (rows_len hr).1]
      exact hN
    · have : (rowsOf N f).length = N := by simp [rowsOf]
      rw [List.length_map, this]
      omega
    · obtain ⟨r, hr, rfl⟩ := List.mem_map.mp hx
      refine ⟨[some (.cell i), some (.int N), some d, s3, s4, some (gridD (rowsOf N f)), none, some (.lst (r.map .int)), none, none, none], by simp, fun acc => ⟨⟨itC (r.map .int), pure_C _, ev_seqI (d := .lst (r.map .int)) (by simp) rfl⟩, fun y hy => ?_⟩⟩
      obtain ⟨n, hn, rfl⟩ := List.mem_map.mp hy
      exact ⟨[some (.cell i), some (.int N), some d, s3, s4, some (gridD (rowsOf N f)), none, some (.lst (r.map .int)), some (.int n), none, none], by simp, fun acc => ⟨rfl, fun _ => by simp [big]⟩⟩
  have a := anyF (C := C) (l := flat2 ((rowsOf N f).map fun r => .lst (r.map .int)) itemsD (fun _ _ => true) fun _ y => .bl (big y)) fun x hx => by
    unfold flat2 at hx
    obtain ⟨row, hrow, hx⟩ := List.mem_flatMap.mp hx
    obtain ⟨r, hr, rfl⟩ := List.mem_map.mp hrow
    obtain ⟨y, hy, rfl⟩ := List.mem_map.mp hx
    have hy' := (List.mem_filter.mp hy).1
    obtain ⟨n, hn, rfl⟩ := List.mem_map.mp hy'
    obtain ⟨u, v, hu, hv, rfl⟩ := (rows_len hr).2 n hn
    have := hf u v hu hv
    simp only [big]
    rw [decide_eq_false (by omega)]
  simp only [b_Web__init_4, ev_sif, ev_tst, ev_ap, ev_cons, e, consK_ok, ev_nil, consK2_ok, apK_ok, a, ev_ofO_some, tstK_ok, sifK_f, ev_next]
theorem init_5 {fl i : Nat} {s3 s4 s5 : Option D} (hN : N ≤ 60) : b_Web__init_5 ⟨fl, [some (.cell i), some (.int N), some d, s3, s4, s5, none, none, none, none, none]⟩ C =
    .nx [some (.cell i), some (.int N), some d, s3, s4, s5, some (.lst ((pairsL N).map pD)), none, none, none, none] C := by
  have e : mLc2 false (mRng1 (mVar 1)) (Tgt.nm 9).M tYesM (mRng2 (mOp oAdd (mVar 9) (mC (.int 1))) (mVar 1)) (Tgt.nm 10).M tYesM (mAp oTup (mCons (mVar 9) (mCons (mVar 10) mNil))) [9, 10] [10] ⟨fl, [some (.cell i), some (.int N), some d, s3, s4, s5, none, none, none, none, none]⟩ C =
      .ok (.lst (flat2 (rngI 0 N) (fun x => rngI (asI x + 1) (N - (asI x + 1)).toNat) (fun _ _ => true) fun x y => .tup [x, y])) C := by
    refine ev_lc2 (pure_R 0 N) (fun x => rngI (asI x + 1) (N - (asI x + 1)).toNat) (fun _ _ => true) (fun x y => .tup [x, y]) 60 (by rw [ev_rng1 (j := (N : Int)) (by simp) (inR_nat (by omega))]; simp) (fun x hx => ?_) (by simp [rngI]; omega) (by omega) (fun x hx => ?_) (fun x hx y hy _ => ?_)
    · obtain ⟨u, hu, rfl⟩ := mem_rng hx
      simp [rngI, asI]
      omega
    · obtain ⟨u, hu, rfl⟩ := mem_rng hx
      refine ⟨[some (.cell i), some (.int N), some d, s3, s4, s5, none, none, none, some (.int (0 + (u : Int))), none], by simp, fun acc => ⟨⟨itR ((0 + (u : Int)) + 1) ((N : Int) - ((0 + (u : Int)) + 1)).toNat, pure_R _ _, ?_⟩, fun y hy => ?_⟩⟩
      · exact ev_rng2 (by simp) (by simp) (by have := inR_nat (N := u + 1) (by omega); simpa using this) (inR_nat (by omega))
      · obtain ⟨w, hw, rfl⟩ := mem_rng hy
        exact ⟨[some (.cell i), some (.int N), some d, s3, s4, s5, none, none, none, some (.int (0 + (u : Int))), some (.int (asI (.int (0 + (u : Int))) + 1 + (w : Int)))], by simp, fun acc => ⟨rfl, fun _ => by simp [oTup, szN]⟩⟩
    · obtain ⟨u, hu, rfl⟩ := mem_rng hx
      obtain ⟨w, hw, rfl⟩ := mem_rng hy
      rfl
  have ep : flat2 (rngI 0 N) (fun x => rngI (asI x + 1) (N - (asI x + 1)).toNat) (fun _ _ => true) (fun x y => .tup [x, y]) = (pairsL N).map pD := by
    unfold flat2 pairsL
    rw [List.map_flatMap]
    unfold rngI
    rw [List.flatMap_map]
    apply flatMap_cg
    intro u hu
    have hu' := List.mem_range.mp hu
    rw [filter_yes, List.map_map, List.map_map]
    have e1 : ((N : Int) - (asI (.int (0 + (u : Int))) + 1)).toNat = N - (u + 1) := by simp only [asI]; omega
    rw [e1]
    apply List.map_congr_left
    intro w hw
    simp [pD, asI]
  rw [b_Web__init_5, ev_asg, e, ep]
  simp
end
end CL
set_option maxHeartbeats 4000000
/-! M5: Web(size, ties), made. -/
namespace CL
open PySem L2 CT
theorem fld_ok {c n i : Nat} {me mo : ME} {F : Fr} {C : Store} {v : D} {fs : List D} (h1 : me F C = .ok v C) (h2 : mo F C = .ok (.cell i) C) (h3 : C[i]? = some (some (.ins c fs))) (h4 : n = fs.length) (h5 : cbL 0 (fs ++ [v]) = true) :
    sFldS c n me mo F C = .nx F.sl (C.set i (some (.ins c (fs ++ [v])))) := by
  have w : wr F.fl i (.ins c (fs ++ [v])) C = some (C.set i (some (.ins c (fs ++ [v])))) := by
    unfold wr
    rw [if_neg (fun h => by rw [show cbC 0 (.ins c (fs ++ [v])) = cbL 0 (fs ++ [v]) from rfl, h5] at h; cases h.2)]
  unfold sFldS
  rw [h1]
  simp only [bndS_ok]
  rw [h2]
  simp only [bndS_ok, h3]
  rw [if_pos ⟨trivial, Nat.le_of_eq h4⟩, if_neg (by omega), w]
theorem cbL_app {n : Nat} : ∀ {l m : List D}, cbL n (l ++ m) = (cbL n l && cbL n m)
  | [], m => by simp [cbL]
  | d :: l, m => by
    show (cb n d && cbL n (l ++ m)) = ((cb n d && cbL n l) && cbL n m)
    rw [cbL_app, Bool.and_assoc]
def rowD (N : Nat) (f : Int × Int → Int) (u : Nat) : D := .lst (((List.range N).map fun v : Nat => f (min (u : Int) (v : Int), max (u : Int) (v : Int))).map .int)
theorem gix {N : Nat} {f : Int × Int → Int} {u : Nat} (hu : u < N) (C : Store) : oIx (gridD (rowsOf N f)) (.int u) C = some (rowD N f u, C) := grid_ix hu C
theorem rix {N : Nat} {f : Int × Int → Int} {u v : Nat} (hv : v < N) (C : Store) : oIx (rowD N f u) (.int v) C = some (.int (f (min (u : Int) (v : Int), max (u : Int) (v : Int))), C) := row_ix (g := fun v : Nat => f (min (u : Int) (v : Int), max (u : Int) (v : Int))) hv C
def posB (f : Int × Int → Int) : D → Bool
  | .tup [.int a, .int b] => decide (0 < f (a, b))
  | _ => false
def triB (f : Int × Int → Int) : D → D
  | .tup [.int a, .int b] => triD (a, b, f (a, b))
  | _ => .non
theorem cb_grid (n : Nat) (G : List (List Int)) : cb n (gridD G) = true := by
  show cbL n _ = true
  refine cbL_all fun d hd => ?_
  obtain ⟨r, hr, rfl⟩ := List.mem_map.mp hd
  exact cbL_ints _ _
theorem cb_ties (n : Nat) (l : List T3) : cbL n (l.map triD) = true := cbL_all fun d hd => by
  obtain ⟨t, _, rfl⟩ := List.mem_map.mp hd
  rfl
section
variable {N : Nat} {L : List T3} {C : Store} {d : D}
theorem ties_lc {fl i : Nat} {s3 s4 : Option D} {f : Int × Int → Int} : mLc false (mSeq (mVar 6)) (Tgt.tp [9, 10]).M (mTst (mOp oGt (mOp oIx (mOp oIx (mVar 5) (mVar 9)) (mVar 10)) (mC (.int 0)))) (mAp oTup (mCons (mVar 9) (mCons (mVar 10) (mCons (mOp oIx (mOp oIx (mVar 5) (mVar 9)) (mVar 10)) mNil)))) [9, 10]
    ⟨fl, [some (.cell i), some (.int N), some d, s3, s4, some (gridD (rowsOf N f)), some (.lst ((pairsL N).map pD)), none, none, none, none]⟩ C = .ok (.lst ((tiesL N f).map triD)) C ∨ 3600 < (pairsL N).length := by
  by_cases hz : 3600 < (pairsL N).length
  · exact .inr hz
  refine .inl ?_
  have e := ev_lc (pure_C ((pairsL N).map pD)) (mi := mSeq (mVar 6)) (g := (Tgt.tp [9, 10]).M) (tt := mTst (mOp oGt (mOp oIx (mOp oIx (mVar 5) (mVar 9)) (mVar 10)) (mC (.int 0)))) (te := mAp oTup (mCons (mVar 9) (mCons (mVar 10) (mCons (mOp oIx (mOp oIx (mVar 5) (mVar 9)) (mVar 10)) mNil)))) (vs := [9, 10])
    (F := ⟨fl, [some (.cell i), some (.int N), some d, s3, s4, some (gridD (rowsOf N f)), some (.lst ((pairsL N).map pD)), none, none, none, none]⟩) (C := C) (posB f) (triB f) (ev_seqI (d := .lst ((pairsL N).map pD)) (by simp) rfl) (by rw [List.length_map]; omega)
    (fun x hx => by
      obtain ⟨p, hp, rfl⟩ := List.mem_map.mp hx
      obtain ⟨u, v, h1, h2, rfl⟩ := mem_pairs.mp hp
      have hu : u < N := by omega
      have e1 : min (u : Int) (v : Int) = u := by omega
      have e2 : max (u : Int) (v : Int) = v := by omega
      refine ⟨[some (.cell i), some (.int N), some d, s3, s4, some (gridD (rowsOf N f)), some (.lst ((pairsL N).map pD)), none, none, some (.int u), some (.int v)], by simp [pD], fun acc => ⟨?_, fun _ => ?_⟩⟩
      · simp [gix hu, rix h2, e1, e2, posB, pD]
      · simp [gix hu, rix h2, e1, e2, triB, pD, oTup, szN, triD])
    (fun x hx _ => by
      obtain ⟨p, hp, rfl⟩ := List.mem_map.mp hx
      rfl)
  rw [e]
  congr 2
  unfold tiesL
  rw [List.filter_map, List.map_map, List.map_map]
  rfl
theorem pairs_len (h : N ≤ 60) : (pairsL N).length ≤ 3600 := by
  have : ∀ l : List Nat, (l.flatMap fun u : Nat => (List.range (N - (u + 1))).map fun w : Nat => ((u : Int), ((u + 1 + w : Nat) : Int))).length ≤ l.length * 60 := by
    intro l
    induction l with
    | nil => simp
    | cons u l ih =>
      rw [List.flatMap_cons, List.length_append, List.length_cons, List.length_map, List.length_range, Nat.succ_mul]
      omega
  have h2 := this (List.range N)
  rw [List.length_range] at h2
  have h3 : N * 60 ≤ 3600 := by omega
  exact Nat.le_trans h2 h3
end
end CL
set_option maxHeartbeats 4000000
/-! M6: the instance. -/
namespace CL
open PySem L2 CT
section
variable {N : Nat} {L : List T3} {C : Store} {d : D}
/-- the ties fit into a web of N places -/
structure Fits (N : Nat) (L : List T3) : Prop where
  n : N ≤ 60
  v : ∀ t ∈ L, ValidT N t
  l : L.length ≤ 1000000
  s : ∀ u v : Nat, u < N → v < N → fL L (min (u : Int) (v : Int), max (u : Int) (v : Int)) ≤ 1000000000
theorem init_ok (h : Fits N L) (hd : SeqD d (L.map triD) C) : m_Web__init [.cell C.length, .int N, d] (C ++ [some (.ins 0 [])]) = .ok .non (C ++ [some (.ins 0 [.int N, gridD (rowsOf N (fL L)), .tup ((tiesL N (fL L)).map triD)])]) := by
  have st : ∀ x y : Option Cell, (C ++ [x]).set C.length y = C ++ [y] := fun x y => by simp
  have gt : ∀ x : Option Cell, (C ++ [x])[C.length]? = some x := fun x => by simp
  have hd1 := hd.app [some (.ins 0 [])]
  rw [e_Web__init, b_Web__init, ev_seq, init_0 h.n rfl, seqK_nx, ev_seq, init_1 rfl hd1, seqK_nx, ev_seq]
  obtain ⟨s3, s4, e2⟩ := init_2 (C := C ++ [some (.ins 0 [])]) (fl := (C ++ [some (Cell.ins 0 [])]).length) (i := C.length) hd1.seq h.v
  rw [e2, seqK_nx, ev_seq, init_3 h.n hd1.seq h.l, seqK_nx, ev_seq, init_4 h.n h.s, seqK_nx, ev_seq, init_5 h.n, seqK_nx, ev_seq]
  have e6 : ∀ fl sl, sl[0]? = some (some (D.cell C.length)) → sl[1]? = some (some (.int N)) → b_Web__init_6 ⟨fl, sl⟩ (C ++ [some (.ins 0 [])]) = .nx sl (C ++ [some (.ins 0 [.int N])]) := fun fl sl h0 h1 => by
    rw [b_Web__init_6, fld_ok (n := 0) (v := .int N) (i := C.length) (fs := []) (by simp [h1]) (by simp [h0]) (gt _) rfl rfl, st]
    rfl
  have e7 : ∀ fl sl, sl[0]? = some (some (D.cell C.length)) → sl[5]? = some (some (gridD (rowsOf N (fL L)))) → b_Web__init_7 ⟨fl, sl⟩ (C ++ [some (.ins 0 [.int N])]) = .nx sl (C ++ [some (.ins 0 [.int N, gridD (rowsOf N (fL L))])]) := fun fl sl h0 h1 => by
    rw [b_Web__init_7, fld_ok (n := 1) (v := gridD (rowsOf N (fL L))) (i := C.length) (fs := [.int N]) (by simp [h1]) (by simp [h0]) (gt _) rfl (by
      rw [cbL_app]
      show (true && (cb 0 (gridD (rowsOf N (fL L))) && true)) = true
      rw [cb_grid]
      rfl), st]
    rfl
  rw [e6 _ _ rfl rfl, seqK_nx, ev_seq, e7 _ _ rfl rfl, seqK_nx]
  have el : mLc false (mSeq (mVar 6)) (Tgt.tp [9, 10]).M (mTst (mOp oGt (mOp oIx (mOp oIx (mVar 5) (mVar 9)) (mVar 10)) (mC (.int 0)))) (mAp oTup (mCons (mVar 9) (mCons (mVar 10) (mCons (mOp oIx (mOp oIx (mVar 5) (mVar 9)) (mVar 10)) mNil)))) [9, 10]
      ⟨(C ++ [some (Cell.ins 0 [])]).length, [some (.cell C.length), some (.int N), some d, s3, s4, some (gridD (rowsOf N (fL L))), some (.lst ((pairsL N).map pD)), none, none, none, none]⟩ (C ++ [some (.ins 0 [.int N, gridD (rowsOf N (fL L))])]) = .ok (.lst ((tiesL N (fL L)).map triD)) (C ++ [some (.ins 0 [.int N, gridD (rowsOf N (fL L))])]) := by
    rcases ties_lc (N := N) (d := d) (C := C ++ [some (.ins 0 [.int N, gridD (rowsOf N (fL L))])]) (fl := (C ++ [some (Cell.ins 0 [])]).length) (i := C.length) (s3 := s3) (s4 := s4) (f := fL L) with e | e
    · exact e
    · have := pairs_len h.n
      omega
  rw [b_Web__init_8, fld_ok (n := 2) (v := .tup ((tiesL N (fL L)).map triD)) (i := C.length) (fs := [.int N, gridD (rowsOf N (fL L))]) (by
    rw [ev_ap, ev_cons]
    simp only [List.cons_append, List.nil_append]
    rw [el]
    simp [oTupOf, vL]) (by simp) (gt _) rfl (by
    show (true && (cb 0 (gridD (rowsOf N (fL L))) && (cbL 0 ((tiesL N (fL L)).map triD) && true))) = true
    rw [cb_grid, cb_ties]
    rfl), st, finS_nx, fin_non]
  congr 1
  exact List.take_of_length_le (by simp)
theorem make_ok {F : Fr} {a : MA} {dds ds : List D} (h : Fits N L) (hd : SeqD d (L.map triD) C) (ha : a F C = .ok ds C) (e : ds ++ dds = [.int N, d]) : mMake false 0 3 m_Web__init dds a F C = .ok (webD N (fL L)) C := by
  unfold mMake
  rw [ha]
  simp only [bnd_ok]
  rw [e, init_ok h hd]
  have gt : ∀ x : Option Cell, (C ++ [x])[C.length]? = some x := fun x => by simp
  simp only [gt]
  have c : cbL C.length [.int N, gridD (rowsOf N (fL L)), .tup ((tiesL N (fL L)).map triD)] = true := by
    show (true && (cb C.length (gridD (rowsOf N (fL L))) && (cbL C.length ((tiesL N (fL L)).map triD) && true))) = true
    rw [cb_grid, cb_ties]
    rfl
  simp [c, webD]
end
end CL
set_option maxHeartbeats 4000000
/-! M7: total, degrees, within, changed, crossing. -/
namespace CL
open PySem L2 CT
@[simp] theorem dInts_map : ∀ l : List Int, dInts (l.map D.int) = some l
  | [] => rfl
  | x :: l => by
    show (dInts (l.map D.int)).map _ = _
    rw [dInts_map l]
    rfl
@[simp] theorem dBools_map : ∀ l : List Bool, dBools (l.map D.bl) = some l
  | [] => rfl
  | x :: l => by
    show (dBools (l.map D.bl)).map _ = _
    rw [dBools_map l]
    rfl
theorem sum_ints (l : List Int) (C : Store) : oSum [.lst (l.map .int)] C = some (.int l.sum, C) := by
  simp [oSum, vL]
def thirdD : D → D
  | .tup [_, _, z] => z
  | _ => .non
section
variable {N M : Nat} {f g : Int × Int → Int} {C : Store}
theorem mem_ties {t : T3} : t ∈ tiesL N f ↔ ∃ u v : Nat, u < v ∧ v < N ∧ 0 < f ((u : Int), (v : Int)) ∧ t = ((u : Int), (v : Int), f ((u : Int), (v : Int))) := by
  unfold tiesL
  rw [List.mem_map]
  constructor
  · rintro ⟨p, hp, rfl⟩
    obtain ⟨h1, h2⟩ := List.mem_filter.mp hp
    obtain ⟨u, v, a, b, rfl⟩ := mem_pairs.mp h1
    exact ⟨u, v, a, b, of_decide_eq_true h2, rfl⟩
  · rintro ⟨u, v, a, b, c, rfl⟩
    exact ⟨(u, v), List.mem_filter.mpr ⟨mem_pairs.mpr ⟨u, v, a, b, rfl⟩, decide_eq_true c⟩, rfl⟩
theorem ties_len (h : N ≤ 60) : (tiesL N f).length ≤ 3600 := by
  unfold tiesL
  rw [List.length_map]
  exact Nat.le_trans (List.length_filter_le _ _) (pairs_len h)
def sumD : D → D
  | .lst l => (match dInts l with
    | some ns => .int ns.sum
    | none => .non)
  | _ => .non
end
end CL
set_option maxHeartbeats 4000000
/-! M9: plain facts on sums. -/
namespace CL
open PySem L2 CT
/-- what the items give a pair together -/
def tot (L : List T3) (k : Int × Int) : Int := (L.map fun t => if pr t = k then t.2.2 else 0).sum
theorem dg0_fold (k : Int × Int) : ∀ (L : List T3) (d : Dc), dg0 (L.foldl addT d) k = dg0 d k + tot L k
  | [], d => by simp [tot]
  | t :: L, d => by
    rw [List.foldl_cons, dg0_fold k L]
    unfold addT
    rw [dg0_dp]
    by_cases h : k = pr t
    · subst h
      simp [tot]
      omega
    · have h' : ¬ pr t = k := fun e => h e.symm
      simp [tot, h, h']
theorem dg0_sums (L : List T3) (k : Int × Int) : dg0 (sums L) k = tot L k := by
  have := dg0_fold k L []
  rw [show dg0 ([] : Dc) k = 0 from rfl, Int.zero_add] at this
  exact this
theorem tot_app (L M : List T3) (k : Int × Int) : tot (L ++ M) k = tot L k + tot M k := by
  simp [tot]
theorem tot_cons (t : T3) (L : List T3) (k : Int × Int) : tot (t :: L) k = (if pr t = k then t.2.2 else 0) + tot L k := by
  simp [tot]
theorem tot_nonneg {L : List T3} {k : Int × Int} (h : ∀ t ∈ L, 0 ≤ t.2.2) : 0 ≤ tot L k := by
  induction L with
  | nil => simp [tot]
  | cons t L ih =>
    rw [tot_cons]
    have h1 := h t (List.mem_cons_self ..)
    have h2 := ih fun s hs => h s (List.mem_cons_of_mem _ hs)
    split <;> omega
theorem fold_keys : ∀ (L : List T3) (d : Dc), (d.map (·.1)).Nodup → ((L.foldl addT d).map (·.1)).Nodup
  | [], d, h => h
  | t :: L, d, h => by
    rw [List.foldl_cons]
    exact fold_keys L _ (dp_keys _ _ _ h)
theorem sums_keys (L : List T3) : ((sums L).map (·.1)).Nodup := fold_keys L [] (by simp)
theorem fold_mem {P : (Int × Int) × Int → Prop} : ∀ (L : List T3) (d : Dc), (∀ p ∈ d, P p) → (∀ t ∈ L, ∀ n, P (pr t, n)) → ∀ p ∈ L.foldl addT d, P p
  | [], d, h, _, p, hp => h p hp
  | t :: L, d, h, g, p, hp => by
    rw [List.foldl_cons] at hp
    refine fold_mem L _ (fun q hq => ?_) (fun s hs => g s (List.mem_cons_of_mem _ hs)) p hp
    rcases mem_dp hq with rfl | hq
    · exact g t (List.mem_cons_self ..) _
    · exact h q hq
/-- the ties of a web tell its numbers -/
theorem tot_ties {N : Nat} {f : Int × Int → Int} {a b : Int} (h0 : ∀ p, 0 ≤ f p) : ∀ {l : List (Int × Int)}, (∀ p ∈ l, p.1 ≤ p.2) → l.Nodup → tot ((l.filter fun p => decide (0 < f p)).map fun p => (p.1, p.2, f p)) (a, b) = if (a, b) ∈ l then f (a, b) else 0
  | [], _, _ => by simp [tot]
  | p :: l, ho, nd => by
    rw [List.nodup_cons] at nd
    have ih := tot_ties (N := N) (f := f) (a := a) (b := b) h0 (fun q hq => ho q (List.mem_cons_of_mem _ hq)) nd.2
    have hp := ho p (List.mem_cons_self ..)
    have e1 : pr (p.1, p.2, f p) = p := by
      show (min p.1 p.2, max p.1 p.2) = p
      rw [show min p.1 p.2 = p.1 by omega, show max p.1 p.2 = p.2 by omega]
    rw [List.filter_cons]
    by_cases hf : 0 < f p
    · rw [if_pos (decide_eq_true hf), List.map_cons, tot_cons, ih, e1]
      by_cases e : p = (a, b)
      · subst e
        rw [if_pos rfl, if_neg nd.1, if_pos (List.mem_cons_self ..)]
        show f (a, b) + 0 = f (a, b)
        omega
      · rw [if_neg e]
        have e' : ¬ (a, b) = p := fun z => e z.symm
        simp [e']
    · rw [if_neg (by simpa using hf), ih]
      have z : f p = 0 := by have := h0 p; omega
      by_cases e : p = (a, b)
      · subst e
        rw [if_neg nd.1, if_pos (List.mem_cons_self ..), z]
      · have e' : ¬ (a, b) = p := fun z => e z.symm
        simp [e']
theorem pairs_nodup (N : Nat) : (pairsL N).Nodup := by
  unfold pairsL
  have key : ∀ l : List Nat, l.Nodup → (l.flatMap fun u : Nat => (List.range (N - (u + 1))).map fun w : Nat => ((u : Int), ((u + 1 + w : Nat) : Int))).Nodup := by
    intro l
    induction l with
    | nil => intro _; simp
    | cons u l ih =>
      intro hl
      rw [List.nodup_cons] at hl
      rw [List.flatMap_cons, List.nodup_append]
      refine ⟨?_, ih hl.2, ?_⟩
      · apply nodup_map_on List.nodup_range
        intro x _ y _ e
        have := congrArg Prod.snd e
        simp only at this
        omega
      · intro a ha b hb e
        subst e
        obtain ⟨w, _, rfl⟩ := List.mem_map.mp ha
        obtain ⟨u', hu', hb'⟩ := List.mem_flatMap.mp hb
        obtain ⟨w', _, e⟩ := List.mem_map.mp hb'
        have := congrArg Prod.fst e
        simp only at this
        have eu : u' = u := by omega
        subst eu
        exact hl.1 hu'
  exact key _ List.nodup_range
end CL
set_option maxHeartbeats 4000000
/-! M10: a dict's keys in order; _law_made. -/
namespace CL
open PySem L2 CT
def le2 (p q : Int × Int) : Bool := decide (p.1 < q.1 ∨ (p.1 = q.1 ∧ p.2 ≤ q.2))
def sk (d : Dc) : List (Int × Int) := (d.map (·.1)).mergeSort le2
def key2 (p : Int × Int) : List Key := [.inl p.1, .inl p.2]
theorem le2_key (p q : Int × Int) : PySem.W.dataLe false kPs (key2 p) (key2 q) = le2 p q := by
  have e := congrFun (congrFun (PySem.W.dataLe_ii (fun b : Int × Int => b.1) (fun b => b.2)) p) q
  exact e
theorem sk_perm (d : Dc) : (sk d).Perm (d.map (·.1)) := List.mergeSort_perm _ _
theorem le2_trans (a b c : Int × Int) (h1 : le2 a b = true) (h2 : le2 b c = true) : le2 a c = true := by
  simp only [le2, decide_eq_true_eq] at *
  omega
theorem le2_total (a b : Int × Int) : (le2 a b || le2 b a) = true := by
  simp only [le2, Bool.or_eq_true, decide_eq_true_eq]
  omega
theorem sk_sorted (d : Dc) : (sk d).Pairwise (fun a b => le2 a b = true) := List.pairwise_mergeSort le2_trans le2_total _
theorem mem_sk {d : Dc} {p : Int × Int} : p ∈ sk d ↔ p ∈ d.map (·.1) := (sk_perm d).mem_iff
theorem sk_nodup {d : Dc} (h : (d.map (·.1)).Nodup) : (sk d).Nodup := (sk_perm d).nodup_iff.mpr h
theorem srtb_keys (d : Dc) : srtb ((dcK d).map kPs) = true := by
  have e : ∀ p ∈ (dcK d).map kPs, ∃ a b : Int, p = .tuple [.int a, .int b] := fun p hp => by
    obtain ⟨k, hk, rfl⟩ := List.mem_map.mp hp
    obtain ⟨q, _, rfl⟩ := List.mem_map.mp hk
    exact ⟨q.1.1, q.1.2, rfl⟩
  simp only [srtb, Bool.and_eq_true, Bool.or_eq_true, List.all_eq_true]
  refine ⟨fun x hx y hy => ?_, .inl fun x hx => ?_⟩
  · obtain ⟨a, b, rfl⟩ := e x hx
    obtain ⟨a', b', rfl⟩ := e y hy
    simp [PySem.W.alike, PySem.W.alikeAll]
  · obtain ⟨a, b, rfl⟩ := e x hx
    rfl
theorem sort_dc {x : D} {C : Store} {d : Dc} (h : vD x C = some (dcK d, dcV d)) : oSortD false [x] C = some (.lst ((sk d).map pD), C) := by
  have em := List.map_mergeSort (r := le2) (s := PySem.W.dataLe false kPs) (f := key2) (l := d.map (·.1)) (fun a _ b _ => (le2_key a b).symm)
  have ek : (d.map (·.1)).map key2 = dcK d := by
    rw [List.map_map]
    rfl
  rw [ek] at em
  simp only [oSortD, h, srtb_keys, if_true]
  rw [← em]
  show some (mkL false _ C) = _
  simp only [mkL, Bool.false_eq_true, if_false]
  congr 2
  unfold sk
  congr 1
  rw [List.map_map]
  rfl
/-- a dict of sums for N places -/
structure DOk (N : Nat) (d : Dc) : Prop where
  n : N ≤ 60
  nd : (d.map (·.1)).Nodup
  k : ∀ p ∈ d, 0 ≤ p.1.1 ∧ p.1.1 < p.1.2 ∧ p.1.2 < N ∧ 0 ≤ p.2 ∧ p.2 ≤ 1000000000
  l : d.length ≤ 900
theorem dg0_key {d : Dc} (h : (d.map (·.1)).Nodup) {p : (Int × Int) × Int} (hp : p ∈ d) : dg d p.1 = some p.2 := mem_dg h (by exact hp)
section
variable {N : Nat} {d : Dc} {C : Store} {x : D}
theorem DOk.f (h : DOk N d) (p : Int × Int) : 0 ≤ dg0 d p ∧ dg0 d p ≤ 1000000000 := by
  unfold dg0
  cases e : dg d p with
  | none => simp
  | some n =>
    have := h.k _ (dg_mem e)
    exact ⟨this.2.2.2.1, this.2.2.2.2⟩
theorem DOk.key (h : DOk N d) {p : Int × Int} (hp : p ∈ sk d) : 0 ≤ p.1 ∧ p.1 < p.2 ∧ p.2 < N ∧ ∃ n, dg d p = some n := by
  obtain ⟨q, hq, rfl⟩ := List.mem_map.mp (mem_sk.mp hp)
  have := h.k q hq
  exact ⟨this.1, this.2.1, this.2.2.1, q.2, dg0_key h.nd hq⟩
theorem tot_map {f : Int × Int → Int} {k : Int × Int} : ∀ {l : List (Int × Int)}, (∀ p ∈ l, p.1 < p.2) → l.Nodup → tot (l.map fun p => (p.1, p.2, f p)) k = if k ∈ l then f k else 0
  | [], _, _ => by simp [tot]
  | p :: l, ho, nd => by
    rw [List.nodup_cons] at nd
    have ih := tot_map (f := f) (k := k) (fun q hq => ho q (List.mem_cons_of_mem _ hq)) nd.2
    have hp := ho p (List.mem_cons_self ..)
    have e1 : pr (p.1, p.2, f p) = p := by
      show (min p.1 p.2, max p.1 p.2) = p
      rw [show min p.1 p.2 = p.1 by omega, show max p.1 p.2 = p.2 by omega]
    rw [List.map_cons, tot_cons, ih, e1]
    by_cases e : p = k
    · subst e
      rw [if_pos rfl, if_neg nd.1, if_pos (List.mem_cons_self ..)]
      show f p + 0 = f p
      omega
    · rw [if_neg e]
      have e' : ¬ k = p := fun z => e z.symm
      simp [e']
/-- triples of a dict's numbers -/
def dTri (d : Dc) : D → D
  | .tup [.int a, .int b] => triD (a, b, dg0 d (a, b))
  | _ => .non
end
end CL
set_option maxHeartbeats 4000000
/-! M11: what repr may be asked of. -/
namespace CL
open PySem L2 CT
mutual
def sm : PyData → Bool
  | .none => true
  | .bool _ => true
  | .int i => decide (i.natAbs < 1000000000000)
  | .list xs => smA xs
  | .tuple xs => smA xs
  | .str _ => false
  | .dict _ => false
def smA : List PyData → Bool
  | [] => true
  | x :: xs => sm x && smA xs
end
mutual
theorem sm_ok : ∀ p : PyData, sm p = true → p.showable = true ∧ p.hasDict = false ∧ p.leavesShort 13 = true
  | .none, _ => ⟨rfl, rfl, rfl⟩
  | .bool _, _ => ⟨rfl, rfl, rfl⟩
  | .int i, h => by
    have h' : i.natAbs < 10 ^ 12 := by simpa [sm] using h
    refine ⟨?_, rfl, ?_⟩
    · show decide (i.natAbs.log2 < 1920) = true
      refine decide_eq_true ?_
      by_cases z : i.natAbs = 0
      · rw [z]
        decide
      · exact (Nat.log2_lt z).mpr (Nat.lt_trans h' (by decide))
    · show decide ((PyData.shown (.int i)).length ≤ 13) = true
      exact decide_eq_true (PyData.shown_int_le h')
  | .list xs, h => by
    have := smA_ok xs (by simpa [sm] using h)
    refine ⟨?_, ?_, ?_⟩
    · simpa [PyData.showable] using this.1
    · simpa [PyData.hasDict] using this.2.1
    · simpa [PyData.leavesShort] using this.2.2
  | .tuple xs, h => by
    have := smA_ok xs (by simpa [sm] using h)
    refine ⟨?_, ?_, ?_⟩
    · simpa [PyData.showable] using this.1
    · simpa [PyData.hasDict] using this.2.1
    · simpa [PyData.leavesShort] using this.2.2
  | .str _, h => by simp [sm] at h
  | .dict _, h => by simp [sm] at h
theorem smA_ok : ∀ xs : List PyData, smA xs = true → PyData.showableAll xs = true ∧ PyData.hasDictAll xs = false ∧ PyData.leavesShortAll 13 xs = true
  | [], _ => ⟨rfl, rfl, rfl⟩
  | x :: xs, h => by
    simp only [smA, Bool.and_eq_true] at h
    obtain ⟨a1, a2, a3⟩ := sm_ok x h.1
    obtain ⟨b1, b2, b3⟩ := smA_ok xs h.2
    simp [PyData.showableAll, PyData.hasDictAll, PyData.leavesShortAll, a1, a2, a3, b1, b2, b3]
end
theorem rep_of {p : PyData} (h : sm p = true) (hd : p.depth ≤ 60) (hw : p.weight ≤ 2 ^ 20) : repOk p = true := by
  obtain ⟨h1, h2, h3⟩ := sm_ok p h
  have h4 : p.shown.length ≤ sizeLine := PyData.shown_fits (by decide) (by decide) h3 hw
  rw [sizeLine_eq] at h4
  simp [repOk, h1, h2, hd, szN, h4]
theorem repr_of {x : D} {C : Store} {p : PyData} (e : toP C x = some p) (h : repOk p = true) : oRepr [x] C = some (.str p.shown, C) := by
  simp [oRepr, e, h]
end CL
set_option maxHeartbeats 4000000
/-! M12: the ties in order; degrees. -/
namespace CL
open PySem L2 CT
def lt2 (p q : Int × Int) : Prop := p.1 < q.1 ∨ (p.1 = q.1 ∧ p.2 < q.2)
theorem uniq2 : ∀ {l m : List (Int × Int)}, l.Pairwise lt2 → m.Pairwise lt2 → (∀ x, x ∈ l ↔ x ∈ m) → l = m
  | [], [], _, _, _ => rfl
  | [], y :: m, _, _, h => absurd ((h y).mpr (List.mem_cons_self ..)) (by simp)
  | x :: l, [], _, _, h => absurd ((h x).mp (List.mem_cons_self ..)) (by simp)
  | x :: l, y :: m, hl, hm, h => by
    rw [List.pairwise_cons] at hl hm
    have e : x = y := by
      rcases List.mem_cons.mp ((h x).mp (List.mem_cons_self ..)) with e | hx
      · exact e
      · rcases List.mem_cons.mp ((h y).mpr (List.mem_cons_self ..)) with e | hy
        · exact e.symm
        · have a := hl.1 y hy
          have b := hm.1 x hx
          unfold lt2 at a b
          omega
    subst e
    rw [uniq2 hl.2 hm.2 fun z => ⟨fun hz => ?_, fun hz => ?_⟩]
    · rcases List.mem_cons.mp ((h z).mp (List.mem_cons_of_mem _ hz)) with e | hz'
      · subst e
        have a := hl.1 z hz
        unfold lt2 at a
        omega
      · exact hz'
    · rcases List.mem_cons.mp ((h z).mpr (List.mem_cons_of_mem _ hz)) with e | hz'
      · subst e
        have a := hm.1 z hz
        unfold lt2 at a
        omega
      · exact hz'
theorem pairs_sorted (N : Nat) : (pairsL N).Pairwise lt2 := by
  unfold pairsL
  rw [List.pairwise_flatMap]
  refine ⟨fun u _ => ?_, ?_⟩
  · rw [List.pairwise_map]
    refine (List.pairwise_lt_range (n := N - (u + 1))).imp fun {a b} h => ?_
    refine .inr ⟨rfl, ?_⟩
    show ((u + 1 + a : Nat) : Int) < ((u + 1 + b : Nat) : Int)
    omega
  · refine (List.pairwise_lt_range (n := N)).imp fun {a b} h x hx y hy => ?_
    obtain ⟨_, _, rfl⟩ := List.mem_map.mp hx
    obtain ⟨_, _, rfl⟩ := List.mem_map.mp hy
    refine .inl ?_
    show (a : Int) < (b : Int)
    omega
theorem sk_strict {d : Dc} (h : (d.map (·.1)).Nodup) : (sk d).Pairwise lt2 := by
  have := (sk_sorted d).and (sk_nodup h)
  refine this.imp fun {a b} ⟨h1, h2⟩ => ?_
  simp only [le2, decide_eq_true_eq] at h1
  rcases h1 with h1 | ⟨h1, h3⟩
  · exact .inl h1
  · refine .inr ⟨h1, ?_⟩
    have : a.2 ≠ b.2 := fun e => h2 (Prod.ext h1 e)
    omega
section
variable {N : Nat} {d : Dc}
theorem ties_eq (h : DOk N d) : ((sk d).filter fun p => decide (0 < dg0 d p)) = (pairsL N).filter fun p => decide (0 < dg0 d p) := by
  refine uniq2 ((sk_strict h.nd).sublist List.filter_sublist) ((pairs_sorted N).sublist List.filter_sublist) fun p => ?_
  rw [List.mem_filter, List.mem_filter]
  constructor
  · rintro ⟨h1, h2⟩
    obtain ⟨a, b, c, _⟩ := h.key h1
    refine ⟨mem_pairs.mpr ⟨p.1.toNat, p.2.toNat, by omega, by omega, ?_⟩, h2⟩
    exact Prod.ext (by simp; omega) (by simp; omega)
  · rintro ⟨h1, h2⟩
    refine ⟨?_, h2⟩
    have h3 : 0 < dg0 d p := of_decide_eq_true h2
    unfold dg0 at h3
    cases e : dg d p with
    | none => rw [e] at h3; simp at h3
    | some n => exact mem_sk.mpr (List.mem_map.mpr ⟨_, dg_mem e, rfl⟩)
end
/-! ### sums over lists -/
theorem sum_perm {l m : List Int} (h : l.Perm m) : l.sum = m.sum := by
  induction h with
  | nil => rfl
  | cons x _ ih => rw [List.sum_cons, List.sum_cons, ih]
  | swap x y l => simp only [List.sum_cons]; omega
  | trans _ _ h1 h2 => rw [h1, h2]
theorem perm_of_mem {α : Type} [BEq α] [LawfulBEq α] {l m : List α} (hl : l.Nodup) (hm : m.Nodup) (h : ∀ x, x ∈ l ↔ x ∈ m) : l.Perm m := by
  have c1 : ∀ {n : List α} (a : α), n.Nodup → a ∈ n → n.count a = 1 := by
    intro n a
    induction n with
    | nil => intro _ h; cases h
    | cons x n ih =>
      intro nd hm
      rw [List.nodup_cons] at nd
      rw [List.count_cons]
      rcases List.mem_cons.mp hm with e | hm
      · subst e
        rw [List.count_eq_zero_of_not_mem nd.1]
        simp
      · have hne : x ≠ a := fun e => nd.1 (e ▸ hm)
        rw [ih nd.2 hm]
        simp [hne]
  rw [List.perm_iff_count]
  intro a
  by_cases ha : a ∈ l
  · rw [c1 a hl ha, c1 a hm ((h a).mp ha)]
  · rw [List.count_eq_zero_of_not_mem ha, List.count_eq_zero_of_not_mem fun z => ha ((h a).mpr z)]
theorem sum_filter {α : Type} (f : α → Int) (c : α → Bool) : ∀ l : List α, ((l.filter c).map f).sum = (l.map fun x => if c x = true then f x else 0).sum
  | [] => rfl
  | x :: l => by
    rw [List.filter_cons, List.map_cons, List.sum_cons, ← sum_filter f c l]
    split
    · rw [List.map_cons, List.sum_cons]
    · omega
/-- what a place has of some ties -/
def degT (L : List T3) (w : Int) : Int := (L.map fun t => (if t.1 = w then t.2.2 else 0) + (if t.2.1 = w then t.2.2 else 0)).sum
theorem row_deg {N : Nat} {f : Int × Int → Int} {w : Nat} (hw : w < N) (h0 : ∀ p, 0 ≤ f p) (hd : ∀ a : Int, f (a, a) = 0) : ((List.range N).map fun v : Nat => f (min (w : Int) (v : Int), max (w : Int) (v : Int))).sum = degT (tiesL N f) w := by
  have e1 : degT (tiesL N f) w = (((pairsL N).filter fun p => decide (p.1 = (w : Int) ∨ p.2 = (w : Int))).map f).sum := by
    unfold degT tiesL
    rw [List.map_map, sum_filter, sum_filter]
    congr 1
    apply List.map_congr_left
    intro p hp
    obtain ⟨u, v, a, b, rfl⟩ := mem_pairs.mp hp
    have z := h0 ((u : Int), (v : Int))
    by_cases hf : 0 < f ((u : Int), (v : Int))
    · simp only [Function.comp, hf, decide_true, if_true]
      by_cases q1 : (u : Int) = w
      · have q2 : ¬ (v : Int) = w := by omega
        simp [q1, q2]
      · by_cases q2 : (v : Int) = w
        · simp [q1, q2]
        · simp [q1, q2]
    · have z2 : f ((u : Int), (v : Int)) = 0 := by omega
      simp [hf, z2]
  have e2 : (((pairsL N).filter fun p => decide (p.1 = (w : Int) ∨ p.2 = (w : Int)))).Perm (((List.range N).filter fun v => decide (v ≠ w)).map fun v : Nat => (min (w : Int) (v : Int), max (w : Int) (v : Int))) := by
    refine perm_of_mem ((pairs_nodup N).sublist List.filter_sublist) (nodup_map_on (List.nodup_range.sublist List.filter_sublist) fun x _ y _ e => ?_) fun p => ?_
    · have a := congrArg Prod.fst e
      have b := congrArg Prod.snd e
      simp only at a b
      omega
    · rw [List.mem_filter, List.mem_map]
      constructor
      · rintro ⟨hp, hq⟩
        obtain ⟨u, v, a, b, rfl⟩ := mem_pairs.mp hp
        have hq' : (u : Int) = w ∨ (v : Int) = w := of_decide_eq_true hq
        rcases hq' with q | q
        · refine ⟨v, List.mem_filter.mpr ⟨List.mem_range.mpr b, decide_eq_true (by omega)⟩, ?_⟩
          exact Prod.ext (by simp only; omega) (by simp only; omega)
        · refine ⟨u, List.mem_filter.mpr ⟨List.mem_range.mpr (by omega), decide_eq_true (by omega)⟩, ?_⟩
          exact Prod.ext (by simp only; omega) (by simp only; omega)
      · rintro ⟨v, hv, rfl⟩
        obtain ⟨h1, h2⟩ := List.mem_filter.mp hv
        have h1' := List.mem_range.mp h1
        have h2' : v ≠ w := of_decide_eq_true h2
        refine ⟨mem_pairs.mpr ⟨min w v, max w v, by omega, by omega, ?_⟩, decide_eq_true ?_⟩
        · exact Prod.ext (by simp only; omega) (by simp only; omega)
        · show min (w : Int) (v : Int) = w ∨ max (w : Int) (v : Int) = w
          omega
  rw [e1, sum_perm (e2.map f), List.map_map, sum_filter]
  congr 1
  apply List.map_congr_left
  intro v _
  by_cases h : v = w
  · subst h
    simp [hd]
  · simp [h]
end CL
set_option maxHeartbeats 4000000
/-! M13: _law_web_is, its first parts. -/
namespace CL
open PySem L2 CT
def degOf (N : Nat) (L : List T3) : List Int := (List.range N).map fun w : Nat => degT L w
theorem degT_snoc (L : List T3) (t : T3) (w : Int) : degT (L ++ [t]) w = degT L w + ((if t.1 = w then t.2.2 else 0) + (if t.2.1 = w then t.2.2 else 0)) := by
  simp [degT]
theorem deg_step {N u v : Nat} {n : Int} {L : List T3} (hu : u < N) (hv : v < N) (ne : u ≠ v) : ((degOf N L).set u (degT L u + n)).set v (degT L v + n) = degOf N (L ++ [((u : Int), (v : Int), n)]) := by
  apply List.ext_getElem?
  intro w
  by_cases hw : w < N
  · by_cases e1 : v = w
    · subst e1
      have q : ¬ ((u : Int) = (v : Int)) := by omega
      simp [degOf, hw, degT_snoc, q]
    · by_cases e2 : u = w
      · subst e2
        have q : ¬ ((v : Int) = (u : Int)) := by omega
        rw [List.getElem?_set_ne e1]
        simp [degOf, hw, degT_snoc, q]
      · have q1 : ¬ ((u : Int) = (w : Int)) := by omega
        have q2 : ¬ ((v : Int) = (w : Int)) := by omega
        rw [List.getElem?_set_ne e1, List.getElem?_set_ne e2]
        simp [degOf, hw, degT_snoc, q1, q2]
  · simp [degOf, hw]
section
variable {N : Nat} {d : Dc} {C : Store} {x : D}
def dPos (d : Dc) : D → Bool
  | .tup [.int a, .int b] => decide (0 < dg0 d (a, b))
  | _ => false
theorem rep0 (N : Nat) : (List.replicate N [D.int 0]).flatten = (degOf N []).map .int := by
  unfold degOf degT
  rw [List.map_map]
  have : ∀ n : Nat, (List.replicate n [D.int 0]).flatten = (List.range n).map fun _ => D.int 0 := by
    intro n
    induction n with
    | zero => rfl
    | succ n ih =>
      rw [List.replicate_succ', List.flatten_append, ih, List.range_succ, List.map_append]
      rfl
  rw [this]
  rfl
theorem rep_cell (h : N ≤ 60) : oRep true (.lst [.int 0]) (.int N) C = some (.cell C.length, C ++ [some (.lst ((degOf N []).map .int))]) := by
  have s1 : decide ((N : Int) < 2 ^ 63) = true := decide_eq_true (by omega)
  have s2 : decide (-(2 ^ 63) ≤ (N : Int)) = true := decide_eq_true (by omega)
  have tn : ((N : Int)).toNat = N := by omega
  have s3 : szN ([D.int 0].length * N) = true := by simp [szN]; omega
  unfold oRep
  simp only [vL, tn, s1, s2, s3, Bool.and_self, if_true, rep0]
  rfl
end
end CL
set_option maxHeartbeats 4000000
/-! M16: degrees add up to twice the total. -/
namespace CL
open PySem L2 CT
theorem sum_add {α : Type} (g h : α → Int) : ∀ l : List α, (l.map fun x => g x + h x).sum = (l.map g).sum + (l.map h).sum
  | [] => rfl
  | x :: l => by
    simp only [List.map_cons, List.sum_cons, sum_add g h l]
    omega
theorem sum_ind {u : Nat} {n : Int} : ∀ N : Nat, ((List.range N).map fun w : Nat => if (u : Int) = (w : Int) then n else 0).sum = if u < N then n else 0
  | 0 => by simp
  | N + 1 => by
    rw [List.range_succ, List.map_append, List.sum_append, sum_ind N]
    simp only [List.map_cons, List.map_nil, List.sum_cons, List.sum_nil]
    by_cases h : u < N
    · have h2 : ¬ ((u : Int) = (N : Int)) := by omega
      simp [h, h2, show u < N + 1 by omega]
    · by_cases h2 : u = N
      · subst h2
        simp
      · have h3 : ¬ ((u : Int) = (N : Int)) := by omega
        simp [h, h3, show ¬ u < N + 1 by omega]
theorem sum_deg {N : Nat} : ∀ {L : List T3}, (∀ t ∈ L, ∃ u v : Nat, u < N ∧ v < N ∧ t.1 = u ∧ t.2.1 = v) → (degOf N L).sum = 2 * (L.map (·.2.2)).sum
  | [], _ => by
    have : ∀ l : List Nat, (l.map fun w : Nat => degT [] (w : Int)).sum = 0 := by
      intro l
      induction l with
      | nil => rfl
      | cons x l ih => rw [List.map_cons, List.sum_cons, ih]; rfl
    exact this _
  | t :: L, h => by
    have ih := sum_deg (N := N) (L := L) fun s hs => h s (List.mem_cons_of_mem _ hs)
    obtain ⟨u, v, hu, hv, e1, e2⟩ := h t (List.mem_cons_self ..)
    have e : (degOf N (t :: L)) = (List.range N).map fun w : Nat => ((if (u : Int) = (w : Int) then t.2.2 else 0) + (if (v : Int) = (w : Int) then t.2.2 else 0)) + degT L w := by
      unfold degOf
      apply List.map_congr_left
      intro w _
      simp only [degT, List.map_cons, List.sum_cons, e1, e2]
    rw [e, sum_add, sum_add, sum_ind, sum_ind, if_pos hu, if_pos hv]
    have e3 : ((List.range N).map fun w : Nat => degT L w).sum = (degOf N L).sum := rfl
    rw [e3, ih, List.map_cons, List.sum_cons]
    omega
theorem deg_rows {N : Nat} {f : Int × Int → Int} (h0 : ∀ p, 0 ≤ f p) (hd : ∀ a : Int, f (a, a) = 0) : (rowsOf N f).map List.sum = degOf N (tiesL N f) := by
  unfold rowsOf degOf
  rw [List.map_map]
  apply List.map_congr_left
  intro w hw
  exact row_deg (List.mem_range.mp hw) h0 hd
theorem two_total {N : Nat} {f : Int × Int → Int} : (degOf N (tiesL N f)).sum = 2 * ((tiesL N f).map (·.2.2)).sum := sum_deg fun t ht => by
  obtain ⟨u, v, h1, h2, _, rfl⟩ := mem_ties.mp ht
  exact ⟨u, v, by omega, h2, rfl, rfl⟩
end CL
set_option maxHeartbeats 4000000
/-! M18: what is told, as data. -/
namespace CL
open PySem L2 CT
def triP (t : T3) : PyData := .tuple [.int t.1, .int t.2.1, .int t.2.2]
theorem toPs_ints (Y : Store) : ∀ l : List Int, toPs Y (l.map D.int) = some (l.map PyData.int)
  | [] => rfl
  | x :: l => by
    have ih := toPs_ints Y l
    simp only [List.map_cons, toPs, toP, ih]
theorem toPs_tri (Y : Store) : ∀ l : List T3, toPs Y (l.map triD) = some (l.map triP)
  | [] => rfl
  | x :: l => by
    have ih := toPs_tri Y l
    simp only [List.map_cons, toPs, toP, triD, ih, triP, Option.map_some]
def toldD (N : Nat) (f : Int × Int → Int) : D := .lst [.int N, .tup ((tiesL N f).map triD), .int ((tiesL N f).map (·.2.2)).sum, .tup ((degOf N (tiesL N f)).map .int)]
def toldP (N : Nat) (f : Int × Int → Int) : PyData := .list [.int N, .tuple ((tiesL N f).map triP), .int ((tiesL N f).map (·.2.2)).sum, .tuple ((degOf N (tiesL N f)).map .int)]
theorem told_P {N : Nat} {f : Int × Int → Int} (Y : Store) : toP Y (toldD N f) = some (toldP N f) := by
  simp only [toldD, toldP, toP, toPs, toPs_ints, toPs_tri, Option.map_some]
end CL
set_option maxHeartbeats 4000000
/-! M19: bounds of what is told. -/
namespace CL
open PySem L2 CT
theorem smA_map {α : Type} {g : α → PyData} : ∀ {l : List α}, (∀ x ∈ l, sm (g x) = true) → smA (l.map g) = true
  | [], _ => rfl
  | x :: l, h => by
    show (sm (g x) && smA (l.map g)) = true
    rw [h x (List.mem_cons_self ..), smA_map fun y hy => h y (List.mem_cons_of_mem _ hy)]
    rfl
theorem wt_map {α : Type} {g : α → PyData} {k : Nat} : ∀ {l : List α}, (∀ x ∈ l, (g x).weight ≤ k) → PyData.weightAll (l.map g) ≤ (k + 1) * l.length
  | [], _ => by simp [PyData.weightAll]
  | x :: l, h => by
    have h1 := h x (List.mem_cons_self ..)
    have h2 := wt_map fun y hy => h y (List.mem_cons_of_mem _ hy)
    rw [List.map_cons, PyData.weightAll, List.length_cons, Nat.mul_succ]
    omega
theorem wt_int {i : Int} (h : i.natAbs < 1000000000000) : (PyData.int i).weight ≤ 40 := by
  simp only [PyData.weight]
  split
  · omega
  · rename_i z
    have z' : i.natAbs ≠ 0 := by
      intro e
      apply z
      have : i = 0 := by omega
      rw [this]
      rfl
    have : i.natAbs.log2 < 40 := (Nat.log2_lt z').mpr (Nat.lt_trans h (by decide))
    omega
theorem sum_le {L : List T3} (h : ∀ t ∈ L, 0 ≤ t.2.2 ∧ t.2.2 ≤ 1000000000) : 0 ≤ (L.map (·.2.2)).sum ∧ (L.map (·.2.2)).sum ≤ 1000000000 * L.length := by
  induction L with
  | nil => simp
  | cons t L ih =>
    have a := h t (List.mem_cons_self ..)
    have b := ih fun s hs => h s (List.mem_cons_of_mem _ hs)
    simp only [List.map_cons, List.sum_cons, List.length_cons]
    omega
theorem deg_le {L : List T3} {w : Int} (h : ∀ t ∈ L, 0 ≤ t.2.2 ∧ t.1 ≠ t.2.1) : 0 ≤ degT L w ∧ degT L w ≤ (L.map (·.2.2)).sum := by
  induction L with
  | nil => simp [degT]
  | cons t L ih =>
    have a := h t (List.mem_cons_self ..)
    have b := ih fun s hs => h s (List.mem_cons_of_mem _ hs)
    have e : degT (t :: L) w = ((if t.1 = w then t.2.2 else 0) + (if t.2.1 = w then t.2.2 else 0)) + degT L w := by simp [degT]
    rw [e, List.map_cons, List.sum_cons]
    split <;> split <;> omega
end CL
set_option maxHeartbeats 4000000
/-! M20: _law_web_is of the web of a dict. -/
namespace CL
open PySem L2 CT
section
variable {N : Nat} {d : Dc} {C : Store} {x : D}
theorem DOk.diag (h : DOk N d) (a : Int) : dg0 d (a, a) = 0 := by
  unfold dg0
  cases e : dg d (a, a) with
  | none => rfl
  | some n =>
    have := h.k _ (dg_mem e)
    have q : a < a := this.2.1
    omega
theorem ties_len_d (h : DOk N d) : (tiesL N (dg0 d)).length ≤ 900 := by
  unfold tiesL
  rw [← ties_eq h, List.length_map]
  refine Nat.le_trans (List.length_filter_le _ _) ?_
  rw [(sk_perm d).length_eq, List.length_map]
  exact h.l
theorem told_rep (h : DOk N d) : repOk (toldP N (dg0 d)) = true := by
  have hn := h.n
  have hl := ties_len_d h
  have hT : ∀ t ∈ tiesL N (dg0 d), (0 ≤ t.1 ∧ t.1 < 60 ∧ 0 ≤ t.2.1 ∧ t.2.1 < 60 ∧ t.1 ≠ t.2.1) ∧ 0 ≤ t.2.2 ∧ t.2.2 ≤ 1000000000 := fun t ht => by
    obtain ⟨u, v, h1, h2, _, rfl⟩ := mem_ties.mp ht
    have := h.f ((u : Int), (v : Int))
    refine ⟨?_, this.1, this.2⟩
    simp only
    omega
  have hs := sum_le fun t ht => (hT t ht).2
  have hD : ∀ n ∈ degOf N (tiesL N (dg0 d)), n.natAbs < 1000000000000 := fun n hn => by
    obtain ⟨w, _, rfl⟩ := List.mem_map.mp hn
    have := deg_le (w := (w : Int)) fun t ht => ⟨(hT t ht).2.1, (hT t ht).1.2.2.2.2⟩
    omega
  have hS : (((tiesL N (dg0 d)).map fun t : T3 => t.2.2).sum).natAbs < 1000000000000 := by omega
  have sI : ∀ i : Int, i.natAbs < 1000000000000 → sm (.int i) = true := fun i hi => by simpa [sm] using hi
  have s1 : smA ((tiesL N (dg0 d)).map triP) = true := smA_map fun t ht => by
    have := hT t ht
    show (sm (.int t.1) && (sm (.int t.2.1) && (sm (.int t.2.2) && true))) = true
    rw [sI _ (by omega), sI _ (by omega), sI _ (by omega)]
    rfl
  have s2 : smA ((degOf N (tiesL N (dg0 d))).map .int) = true := smA_map fun n hn => sI n (hD n hn)
  have w1 : PyData.weightAll ((tiesL N (dg0 d)).map triP) ≤ (123 + 1) * (tiesL N (dg0 d)).length := wt_map fun t ht => by
    have q := hT t ht
    have a := wt_int (i := t.1) (by omega)
    have b := wt_int (i := t.2.1) (by omega)
    have c := wt_int (i := t.2.2) (by omega)
    simp only [triP]
    rw [PyData.weight, PyData.weightAll, PyData.weightAll, PyData.weightAll, PyData.weightAll]
    omega
  have w2 : PyData.weightAll ((degOf N (tiesL N (dg0 d))).map .int) ≤ (40 + 1) * (degOf N (tiesL N (dg0 d))).length := wt_map fun n hn => wt_int (hD n hn)
  have l2 : (degOf N (tiesL N (dg0 d))).length = N := by simp [degOf]
  refine rep_of ?_ ?_ ?_
  · show (sm (.int N) && (smA _ && (sm (.int _) && (smA _ && true)))) = true
    rw [sI _ (by omega), s1, sI _ hS, s2]
    rfl
  · have d1 : PyData.depthAll ((tiesL N (dg0 d)).map triP) ≤ 1 := by
      generalize tiesL N (dg0 d) = L
      induction L with
      | nil => simp [PyData.depthAll]
      | cons t L ih =>
        rw [List.map_cons, PyData.depthAll]
        have : (triP t).depth = 1 := by simp [triP, PyData.depth, PyData.depthAll]
        omega
    have d2 : PyData.depthAll ((degOf N (tiesL N (dg0 d))).map .int) = 0 := PySem.W.depth_ints _
    simp only [toldP, PyData.depth, PyData.depthAll, d2]
    omega
  · have a := wt_int (i := (N : Int)) (by omega)
    have b := wt_int hS
    simp only [toldP]
    rw [PyData.weight, PyData.weightAll, PyData.weightAll, PyData.weightAll, PyData.weightAll, PyData.weightAll]
    have e1 : (PyData.tuple ((tiesL N (dg0 d)).map triP)).weight = PyData.weightAll ((tiesL N (dg0 d)).map triP) := by rw [PyData.weight]
    have e2 : (PyData.tuple ((degOf N (tiesL N (dg0 d))).map .int)).weight = PyData.weightAll ((degOf N (tiesL N (dg0 d))).map .int) := by rw [PyData.weight]
    rw [e1, e2]
    have : (2 : Nat) ^ 20 = 1048576 := by decide
    omega
end
end CL
set_option maxHeartbeats 4000000
/-! M22: the bag. -/
namespace CL
open PySem L2 CT
def absD : D → D
  | .int i => .int (i.natAbs : Int)
  | _ => .non
theorem bag_ok (ns : List Int) (hl : ns.length ≤ 63) : ∃ cs : List Int, (∀ c ∈ cs, 0 ≤ c) ∧ m_law_bag [scrD ns] [] = .ok (.cell 0) [some (bagC 0 1234567891 0 cs)] := by
  obtain ⟨ms, e, hm⟩ : ∃ ms : List Int, cutD (ns.map D.int) none (some 63) = ms.map D.int ∧ ms.length ≤ 63 := by
    refine ⟨(ns.drop (HT.sIx (ns.map D.int).length 0 none)).take (HT.sIx (ns.map D.int).length (ns.map D.int).length (some 63) - HT.sIx (ns.map D.int).length 0 none), ?_, ?_⟩
    · unfold cutD
      rw [List.map_take, List.map_drop]
    · rw [List.length_take, List.length_drop]
      omega
  refine ⟨ms.map fun i => (i.natAbs : Int), fun c hc => ?_, ?_⟩
  · obtain ⟨i, _, rfl⟩ := List.mem_map.mp hc
    omega
  have es : mSlL false (mVar 0) mNoPart (mPart (mC (.int 63))) ⟨0, [some (scrD ns), none]⟩ [] = .ok (.lst (ms.map D.int)) [] := by
    show ofO (some (mkL false (cutD (ns.map D.int) none (some 63)) [])) = _
    rw [e]
    rfl
  have el := ev_lc (pure_C (ms.map D.int)) (mi := mSeq (mSlL false (mVar 0) mNoPart (mPart (mC (.int 63))))) (g := (Tgt.nm 1).M) (tt := tYesM) (te := mAp oAbs (mCons (mVar 1) mNil)) (vs := [1]) (F := ⟨0, [some (scrD ns), none]⟩) (C := []) (fun _ => true) absD
    (ev_seqI (d := .lst (ms.map D.int)) es rfl) (by rw [List.length_map]; omega)
    (fun y hy => by
      obtain ⟨i, _, rfl⟩ := List.mem_map.mp hy
      exact ⟨[some (scrD ns), some (.int i)], by simp, fun acc => ⟨rfl, fun _ => by simp [absD]⟩⟩)
    (fun y hy _ => by
      obtain ⟨i, _, rfl⟩ := List.mem_map.mp hy
      rfl)
  rw [filter_yes, List.map_map] at el
  have eb : b_law_bag ⟨0, [some (scrD ns), none]⟩ [] = .rt (.cell 0) [some (bagC 0 1234567891 0 (ms.map fun i => (i.natAbs : Int)))] := by
    rw [b_law_bag, ev_sret, ev_ap, ev_cons, ev_c, consK_ok, ev_cons, ev_c, consK_ok, ev_cons, ev_c, consK_ok, ev_cons, el, consK_ok, ev_nil, consK2_ok, consK2_ok, consK2_ok, consK2_ok, apK_ok]
    have eo : ∀ x : D, oLst true [.int 0, .int 1234567891, .int 0, x] [] = some (.cell 0, [some (.lst [.int 0, .int 1234567891, .int 0, x])]) := fun x => by simp [oLst, szN, mkL]
    rw [eo, ev_ofO_some, retK_ok, bagC, List.map_map]
    rfl
  have ed : m_law_bag [scrD ns] [] = (match b_law_bag ⟨0, [some (scrD ns), none]⟩ [] with
    | .rt d C' => finO 0 d C'
    | .xc e _ C' => if cbL 0 e.fs = true then .exc e (C'.take 0) else .stuck
    | _ => .stuck) := rfl
  have cI := cbL_ints 0 (ms.map fun i => (i.natAbs : Int))
  rw [List.map_map] at cI
  rw [ed, eb]
  simp [finO, bagC, cbL, cb, cI]
end CL
set_option maxHeartbeats 4000000
/-! M23: draws from a bag that lies below other cells; lists of the def's own. -/
namespace CL
open PySem L2 CT
/-- a bag at i -/
def Bg (i : Nat) (C : Store) : Prop := ∃ cs, (∀ x ∈ cs, 0 ≤ x) ∧ Bag i cs C
/-- the bag alone has changed -/
def To (i : Nat) (C C' : Store) : Prop := ∃ x, C' = C.set i (some x) ∧ Bg i C'
section
variable {i : Nat} {C C' C'' Y Z : Store} {n : Int}
theorem Bg.lt (h : Bg i C) : i < C.length := by
  obtain ⟨cs, _, a, b, c, e, _⟩ := h
  exact (List.getElem?_eq_some_iff.mp e).1
theorem Bg.app (h : Bg i C) (Y : Store) : Bg i (C ++ Y) := by
  have hi := h.lt
  obtain ⟨cs, hcs, a, b, c, e, q⟩ := h
  exact ⟨cs, hcs, a, b, c, by rw [List.getElem?_append_left hi]; exact e, q⟩
theorem Bg.cut (hi : i < C.length) (h : Bg i (C ++ Y)) : Bg i C := by
  obtain ⟨cs, hcs, a, b, c, e, q⟩ := h
  exact ⟨cs, hcs, a, b, c, by rw [List.getElem?_append_left hi] at e; exact e, q⟩
theorem To.bg (h : To i C C') : Bg i C' := by
  obtain ⟨x, _, b⟩ := h
  exact b
theorem To.len (h : To i C C') : C'.length = C.length := by
  obtain ⟨x, rfl, _⟩ := h
  simp
theorem To.trans (h : To i C C') (g : To i C' C'') : To i C C'' := by
  obtain ⟨x, rfl, _⟩ := h
  obtain ⟨y, rfl, b⟩ := g
  exact ⟨y, by simp, b⟩
theorem To.refl (h : Bg i C) : To i C C := by
  obtain ⟨cs, hcs, a, b, c, e, q⟩ := h
  refine ⟨bagC a b c cs, ?_, cs, hcs, a, b, c, e, q⟩
  obtain ⟨h1, h2⟩ := List.getElem?_eq_some_iff.mp e
  have z := List.set_getElem_self (as := C) (i := i) h1
  rw [h2] at z
  exact z.symm
theorem To.cut (hi : i < C.length) (h : To i (C ++ Y) Z) : ∃ C', Z = C' ++ Y ∧ To i C C' := by
  obtain ⟨x, rfl, b⟩ := h
  rw [List.set_append_left _ _ hi] at b ⊢
  exact ⟨_, rfl, x, rfl, b.cut (by simpa using hi)⟩
theorem take_to (hB : Bg i C) (hn : 0 < n) (hn2 : n < 4611686018427387904) (Y : Store) : ∃ r C', m_law_take [.cell i, .int n] (C ++ Y) = .ok (.int r) (C' ++ Y) ∧ 0 ≤ r ∧ r < n ∧ To i C C' := by
  have hi := hB.lt
  obtain ⟨cs, hcs, hB'⟩ := hB.app Y
  obtain ⟨r, x, e, h1, h2, h3⟩ := take_ok hB' hcs hn hn2
  obtain ⟨C', e2, t⟩ := To.cut hi (⟨x, rfl, cs, hcs, h3⟩ : To i (C ++ Y) ((C ++ Y).set i (some x)))
  exact ⟨r, C', by rw [e, e2], h1, h2, t⟩
end
theorem ix_ints {l : List Int} {m : Int} (C : Store) (h0 : 0 ≤ m) (h1 : m < l.length) : ∃ n, n ∈ l ∧ oIx (.lst (l.map .int)) (.int m) C = some (.int n, C) := by
  have h : m.toNat < l.length := by omega
  refine ⟨l[m.toNat], List.getElem_mem h, ?_⟩
  have e : ixN l.length m = some m.toNat := by
    simp [ixN, h0, h1]
  simp [oIx, vS, atI, e, h]
theorem app_ok {mo me : ME} {F : Fr} {C : Store} {i : Nat} {v : D} {ds : List D} (h1 : mo F C = .ok (.cell i) C) (h2 : me F C = .ok v C) (h3 : C[i]? = some (some (.lst ds))) (h4 : ds.length < 16777216) (h5 : F.fl ≤ i) :
    mAppend mo me F C = .ok .non (C.set i (some (.lst (ds ++ [v])))) := by
  have hz : szN (ds.length + 1) = true := by simp [szN]; omega
  have w : wr F.fl i (.lst (ds ++ [v])) C = some (C.set i (some (.lst (ds ++ [v])))) := by
    unfold wr
    rw [if_neg (fun h => by omega)]
  unfold mAppend
  rw [h1]
  simp only [bnd_ok, vL, h3, Option.isSome_some, if_true]
  rw [h2]
  simp only [bnd_ok, cL, h3, hz, if_true, w]
end CL
set_option maxHeartbeats 4000000
/-! M24: _law_mixed. -/
namespace CL
open PySem L2 CT
theorem fin_own {A Y : Store} {n : Nat} {xs : List D} (hn : A.length = n) (hc : cbL n xs = true) : fin n (.cell n) (A ++ some (.lst xs) :: Y) = .ok (.lst xs) A := by
  have g : (A ++ some (Cell.lst xs) :: Y)[n]? = some (some (.lst xs)) := by simp [← hn]
  have t : (A ++ some (Cell.lst xs) :: Y).take n = A := by simp [← hn]
  have f : fz n (.cell n) (A ++ some (Cell.lst xs) :: Y) = .lst xs := by
    simp only [fz, Nat.lt_irrefl, if_false, g]
  unfold fin
  rw [f, show cb n (.lst xs) = cbL n xs from rfl, hc, if_pos rfl, t]
end CL
set_option maxHeartbeats 4000000
/-! M25: _law_items. -/
namespace CL
open PySem L2 CT
/-- items that a web of N places can have -/
structure ItOk (N : Nat) (L : List T3) : Prop where
  v : ∀ t ∈ L, ValidT N t
  s : ∀ k, tot L k ≤ 1000000000
theorem ItOk.snoc {N : Nat} {L : List T3} {t : T3} (h : ItOk N L) (ht : ValidT N t) (hs : dg0 (sums L) (pr t) + t.2.2 ≤ 1000000000) : ItOk N (L ++ [t]) := by
  refine ⟨fun s hs => ?_, fun k => ?_⟩
  · rcases List.mem_append.mp hs with hs | hs
    · exact h.v s hs
    · rw [List.mem_singleton.mp hs]
      exact ht
  · rw [tot_app, tot_cons]
    have := h.s k
    by_cases e : pr t = k
    · rw [dg0_sums, e] at hs
      rw [if_pos e, show tot [] k = 0 from rfl]
      omega
    · rw [if_neg e, show tot [] k = 0 from rfl]
      omega
theorem sums_snoc (L : List T3) (t : T3) : sums (L ++ [t]) = addT (sums L) t := by
  unfold sums
  rw [List.foldl_append]
  rfl
section
variable {i N : Nat} {C : Store}
abbrev itsl (i N : Nat) (m a b : Nat) (s5 s6 s7 s8 s9 s10 s11 : Option D) : List (Option D) := [some (.cell i), some (.int N), some (.int m), some (.cell a), some (.cell b), s5, s6, s7, s8, s9, s10, s11]
theorem items_0 {m a b fl : Nat} {s5 s6 s7 s8 s9 s10 s11 : Option D} (hB : Bg i C) (hN : 2 ≤ N) (hN2 : N ≤ 60) (Y : Store) : ∃ u st md C', b_law_items_1b_0 ⟨fl, itsl i N m a b s5 s6 s7 s8 s9 s10 s11⟩ (C ++ Y) = .nx (itsl i N m a b s5 (some (.int u)) (some (.int (1 + st))) (some (.int md)) s9 s10 s11) (C' ++ Y) ∧ 0 ≤ u ∧ u < N ∧ 0 ≤ st ∧ st < (N : Int) - 1 ∧ 0 ≤ md ∧ md < 8 ∧ To i C C' := by
  obtain ⟨u, C1, e1, u0, u1, t1⟩ := take_to (n := (N : Int)) hB (by omega) (by omega) Y
  obtain ⟨st, C2, e2, st0, st1, t2⟩ := take_to (n := (N : Int) - 1) t1.bg (by omega) (by omega) Y
  obtain ⟨md, C3, e3, md0, md1, t3⟩ := take_to (n := 8) t2.bg (by omega) (by omega) Y
  exact ⟨u, st, md, C3, by simp [b_law_items_1b_0, e1, e2, e3], u0, u1, st0, st1, md0, md1, (t1.trans t2).trans t3⟩
theorem items_1 {m a b fl : Nat} {s5 s8 s9 s10 s11 : Option D} {u st : Int} (hN : 2 ≤ N) (St : Store) : b_law_items_1b_1 ⟨fl, itsl i N m a b s5 (some (.int u)) (some (.int (1 + st))) s8 s9 s10 s11⟩ St = .nx (itsl i N m a b s5 (some (.int u)) (some (.int (1 + st))) s8 (some (.int ((u + (1 + st)) % N))) s10 s11) St := by
  simp [b_law_items_1b_1, ev_mod St (show (0 : Int) < N by omega)]
theorem items_2 {m a b fl : Nat} {s5 s6 s7 s9 s10 s11 : Option D} {md : Int} (hB : Bg i C) (h0 : 0 ≤ md) (h1 : md < 8) (Y : Store) : ∃ n C', b_law_items_1b_2 ⟨fl, itsl i N m a b s5 s6 s7 (some (.int md)) s9 s10 s11⟩ (C ++ Y) = .nx (itsl i N m a b s5 s6 s7 (some (.int md)) s9 (some (.int n)) s11) (C' ++ Y) ∧ 0 ≤ n ∧ n ≤ 1000000000 ∧ To i C C' := by
  obtain ⟨x, C1, e1, x0, x1, t1⟩ := take_to (n := 20) hB (by omega) (by omega) Y
  obtain ⟨y, C2, e2, y0, y1, t2⟩ := take_to (n := 1000000001) t1.bg (by omega) (by omega) Y
  obtain ⟨n, hn, e3⟩ := ix_ints (l := [0, 1, 2, 3, 1, x, y, 1000000000]) (C2 ++ Y) h0 h1
  refine ⟨n, C2, ?_, ?_, ?_, t1.trans t2⟩
  · simp only [List.map_cons, List.map_nil] at e3
    simp [b_law_items_1b_2, e1, e2, oLst, szN, mkL, e3]
  · simp only [List.mem_cons, List.not_mem_nil, or_false] at hn
    omega
  · simp only [List.mem_cons, List.not_mem_nil, or_false] at hn
    omega
theorem items_3 {m a b fl : Nat} {s5 s7 s8 s10 s11 : Option D} {u v : Int} (St : Store) : b_law_items_1b_3 ⟨fl, itsl i N m a b s5 (some (.int u)) s7 s8 (some (.int v)) s10 s11⟩ St = .nx (itsl i N m a b s5 (some (.int u)) s7 s8 (some (.int v)) s10 (some (.tup [.int (min u v), .int (max u v)]))) St := by
  simp [b_law_items_1b_3, oTup, szN]
theorem items_4 {m n : Nat} {s5 s7 s8 : Option D} {u v x : Int} {L : List T3} (hn : C.length = n) (hl : L.length ≤ 1000) :
    b_law_items_1b_4 ⟨n, itsl i N m n (n + 1) s5 (some (.int u)) s7 s8 (some (.int v)) (some (.int x)) (some (.tup [.int (min u v), .int (max u v)]))⟩ (C ++ [some (.lst (L.map triD)), some (.dT (dcK (sums L)) (dcV (sums L)))]) =
    .nx (itsl i N m n (n + 1) s5 (some (.int u)) s7 s8 (some (.int v)) (some (.int x)) (some (.tup [.int (min u v), .int (max u v)])))
      (if dg0 (sums L) (pr (u, v, x)) + x ≤ 1000000000 then C ++ [some (.lst ((L ++ [(u, v, x)]).map triD)), some (.dT (dcK (sums (L ++ [(u, v, x)]))) (dcV (sums (L ++ [(u, v, x)]))))] else C ++ [some (.lst (L.map triD)), some (.dT (dcK (sums L)) (dcV (sums L)))]) := by
  subst hn
  have at1 : ∀ p q : Option Cell, (C ++ [p, q])[C.length + 1]? = some q := fun p q => by simp
  have at0 : ∀ p q : Option Cell, (C ++ [p, q])[C.length]? = some p := fun p q => by simp
  have st1 : ∀ p q r : Option Cell, (C ++ [p, q]).set (C.length + 1) r = C ++ [p, r] := fun p q r => by simp
  have st0 : ∀ p q r : Option Cell, (C ++ [p, q]).set C.length r = C ++ [r, q] := fun p q r => by simp
  have hv : vD (.cell (C.length + 1)) (C ++ [some (.lst (L.map triD)), some (.dT (dcK (sums L)) (dcV (sums L)))]) = some (dcK (sums L), dcV (sums L)) := by
    simp only [vD, at1]
  have hs : (vD (.cell (C.length + 1)) (C ++ [some (.lst (L.map triD)), some (.dT (dcK (sums L)) (dcV (sums L)))])).isSome = true := by rw [hv]; rfl
  have hz : (sums L).length < 16777216 := by
    have := sums_len L []
    simp only [List.length_nil] at this
    have q : (sums L).length ≤ 0 + L.length := this
    omega
  by_cases hc : dg0 (sums L) (pr (u, v, x)) + x ≤ 1000000000
  · have hc' : dg0 (sums L) (min u v, max u v) + x ≤ 1000000000 := hc
    rw [if_pos hc]
    rw [b_law_items_1b_4, ev_sif]
    simp only [ev_tst, ev_op, ev_dget, ev_var, List.getElem?_cons_succ, List.getElem?_cons_zero, getV_some, getK_ok _ _ _ hs, getK2_ok, ev_c, getK3_ok, get_at hv, ev_ofO_some, opK_ok, opK2_ok, ev_add, ev_le, tstK_ok, decide_eq_true hc', sifK_t]
    rw [ev_seq]
    simp only [b_law_items_1b_4t_0, ev_put, ev_op, ev_dget, ev_var, List.getElem?_cons_succ, List.getElem?_cons_zero, getV_some, getK_ok _ _ _ hs, getK2_ok, ev_c, getK3_ok, get_at hv, ev_ofO_some, opK_ok, opK2_ok, ev_add, puK_ok, puK2_ok, puK3_ok]
    rw [put_at (at1 _ _) hz (.inr trivial), st1, seqK_nx, b_law_items_1b_4t_1, ev_sdrop]
    rw [app_ok (i := C.length) (v := triD (u, v, x)) (ds := L.map triD) (by simp) (by simp [oTup, szN, triD]) (at0 _ _) (by rw [List.length_map]; omega) (Nat.le_refl _), dropK_ok, st0]
    congr 1
    rw [List.map_append, sums_snoc]
    rfl
  · have hc' : ¬ dg0 (sums L) (min u v, max u v) + x ≤ 1000000000 := hc
    rw [if_neg hc]
    rw [b_law_items_1b_4, ev_sif]
    simp only [ev_tst, ev_op, ev_dget, ev_var, List.getElem?_cons_succ, List.getElem?_cons_zero, getV_some, getK_ok _ _ _ hs, getK2_ok, ev_c, getK3_ok, get_at hv, ev_ofO_some, opK_ok, opK2_ok, ev_add, ev_le, tstK_ok, decide_eq_false hc', sifK_f, ev_next]
theorem mod_ne {u st n : Int} (u0 : 0 ≤ u) (u1 : u < n) (s0 : 0 ≤ st) (s1 : st < n - 1) : 0 ≤ (u + (1 + st)) % n ∧ (u + (1 + st)) % n < n ∧ u ≠ (u + (1 + st)) % n := by
  have hn : 0 < n := by omega
  refine ⟨Int.emod_nonneg _ (by omega), Int.emod_lt_of_pos _ hn, fun e => ?_⟩
  by_cases h : u + (1 + st) < n
  · rw [Int.emod_eq_of_lt (by omega) h] at e
    omega
  · have e2 : (u + (1 + st)) % n = (u + (1 + st)) - n := by
      rw [← Int.sub_emod_right, Int.emod_eq_of_lt (by omega) (by omega)]
    omega
theorem items_ok (hB : Bg i C) (hN : 2 ≤ N) (hN2 : N ≤ 60) {m : Nat} (hm : m ≤ 60) : ∃ (L : List T3) (C' : Store), m_law_items [.cell i, .int N, .int m] C = .ok (.lst (L.map triD)) C' ∧ To i C C' ∧ ItOk N L ∧ L.length ≤ m := by
  have e0 : b_law_items_0 ⟨C.length, [some (.cell i), some (.int N), some (.int m), none, none, none, none, none, none, none, none, none]⟩ C = .nx (itsl i N m C.length (C.length + 1) none none none none none none none) (C ++ [some (.lst []), some (.dT [] [])]) := by
    simp [b_law_items_0, oLst, szN, mkL, mDNew, mkD]
  have hN' : ((1 : Int) < N) := by omega
  obtain ⟨sl', St, h1, h2⟩ := loop_list (pure_R 0 m) (g := (Tgt.nm 5).M) (body := sSeq b_law_items_1b_0 (sSeq b_law_items_1b_1 (sSeq b_law_items_1b_2 (sSeq b_law_items_1b_3 b_law_items_1b_4)))) (fl := C.length)
    (fun j sl St => ∃ (C' : Store) (L : List T3) (s5 s6 s7 s8 s9 s10 s11 : Option D), St = C' ++ [some (.lst (L.map triD)), some (.dT (dcK (sums L)) (dcV (sums L)))] ∧ To i C C' ∧ ItOk N L ∧ L.length ≤ j ∧ j ≤ m ∧ sl = itsl i N m C.length (C.length + 1) s5 s6 s7 s8 s9 s10 s11)
    (fun j x sl St hj hi => by
      obtain ⟨C', L, s5, s6, s7, s8, s9, s10, s11, rfl, t, ok, hl, hjm, rfl⟩ := hi
      have hj2 : j < m := by
        have := (List.getElem?_eq_some_iff.mp hj).1
        simpa [rngI] using this
      obtain ⟨u, st, md, C1, e1, u0, u1, st0, st1, md0, md1, t1⟩ := items_0 (m := m) (a := C.length) (b := C.length + 1) (fl := C.length) (s5 := some x) (s6 := s6) (s7 := s7) (s8 := s8) (s9 := s9) (s10 := s10) (s11 := s11) t.bg hN hN2 [some (.lst (L.map triD)), some (.dT (dcK (sums L)) (dcV (sums L)))]
      obtain ⟨n, C2, e2, n0, n1, t2⟩ := items_2 (N := N) (m := m) (a := C.length) (b := C.length + 1) (fl := C.length) (s5 := some x) (s6 := some (.int u)) (s7 := some (.int (1 + st))) (s9 := some (.int ((u + (1 + st)) % N))) (s10 := s10) (s11 := s11) (t1.bg) md0 md1 [some (.lst (L.map triD)), some (.dT (dcK (sums L)) (dcV (sums L)))]
      obtain ⟨v0, v1, uv⟩ := mod_ne u0 u1 st0 st1
      have t3 := (t.trans t1).trans t2
      refine ⟨itsl i N m C.length (C.length + 1) (some x) s6 s7 s8 s9 s10 s11,
        itsl i N m C.length (C.length + 1) (some x) (some (.int u)) (some (.int (1 + st))) (some (.int md)) (some (.int ((u + (1 + st)) % N))) (some (.int n)) (some (.tup [.int (min u ((u + (1 + st)) % N)), .int (max u ((u + (1 + st)) % N))])),
        if dg0 (sums L) (pr (u, (u + (1 + st)) % N, n)) + n ≤ 1000000000 then C2 ++ [some (.lst ((L ++ [(u, (u + (1 + st)) % N, n)]).map triD)), some (.dT (dcK (sums (L ++ [(u, (u + (1 + st)) % N, n)]))) (dcV (sums (L ++ [(u, (u + (1 + st)) % N, n)]))))] else C2 ++ [some (.lst (L.map triD)), some (.dT (dcK (sums L)) (dcV (sums L)))], by simp, ?_, ?_⟩
      · rw [ev_seq, e1, seqK_nx, ev_seq, items_1 hN, seqK_nx, ev_seq, e2, seqK_nx, ev_seq, items_3, seqK_nx]
        exact items_4 t3.len (by omega)
      · by_cases hc : dg0 (sums L) (pr (u, (u + (1 + st)) % N, n)) + n ≤ 1000000000
        · rw [if_pos hc]
          exact ⟨C2, L ++ [(u, (u + (1 + st)) % N, n)], _, _, _, _, _, _, _, rfl, t3, ok.snoc ⟨u0, u1, v0, v1, uv, n0, n1⟩ hc, by simp; omega, by omega, rfl⟩
        · rw [if_neg hc]
          exact ⟨C2, L, _, _, _, _, _, _, _, rfl, t3, ok, by omega, by omega, rfl⟩)
    (sl := itsl i N m C.length (C.length + 1) none none none none none none none) (C := C ++ [some (.lst []), some (.dT [] [])]) ⟨C, [], none, none, none, none, none, none, none, rfl, To.refl hB, ⟨by simp, fun k => by simp [tot]⟩, by simp, by omega, rfl⟩
  obtain ⟨C', L, s5, s6, s7, s8, s9, s10, s11, rfl, t, ok, hl, hjm, rfl⟩ := h2
  refine ⟨L, C', ?_, t, ok, by simpa [rngI] using hl⟩
  have er : mRng1 (mIf (mTst (mOp oGt (mVar 1) (mC (.int 1)))) (mVar 2) (mC (.int 0))) ⟨C.length, itsl i N m C.length (C.length + 1) none none none none none none none⟩ (C ++ [some (.lst []), some (.dT [] [])]) = .ok (itR 0 m) (C ++ [some (.lst []), some (.dT [] [])]) := by
    rw [ev_rng1 (j := (m : Int)) (by simp [hN']) (inR_nat (by omega))]
    simp
  rw [e_law_items, b_law_items, ev_seq, e0, seqK_nx, ev_seq, b_law_items_1, ev_for, er, forK_ok, h1, seqK_nx, b_law_items_2, ev_sret]
  simp only [ev_var, List.getElem?_cons_succ, List.getElem?_cons_zero, getV_some, retK_ok, finS_rt]
  exact fin_own t.len (cb_ties _ _)
end
end CL
set_option maxHeartbeats 4000000
/-! O1: items of any size, things mixed, counts of any value. -/
namespace CL
open PySem L2 CT
section
variable {i N : Nat} {C : Store}
theorem items_any (hB : Bg i C) (hN2 : N ≤ 60) {m : Nat} (hm : m ≤ 60) : ∃ (L : List T3) (C' : Store), m_law_items [.cell i, .int N, .int m] C = .ok (.lst (L.map triD)) C' ∧ To i C C' ∧ ItOk N L ∧ L.length ≤ m := by
  by_cases hN : 2 ≤ N
  · exact items_ok hB hN hN2 hm
  · have e0 : b_law_items_0 ⟨C.length, [some (.cell i), some (.int N), some (.int m), none, none, none, none, none, none, none, none, none]⟩ C = .nx (itsl i N m C.length (C.length + 1) none none none none none none none) (C ++ [some (.lst []), some (.dT [] [])]) := by
      simp [b_law_items_0, oLst, szN, mkL, mDNew, mkD]
    have hN' : ¬ ((1 : Int) < N) := by omega
    refine ⟨[], C, ?_, To.refl hB, ⟨by simp, fun k => by simp [tot]⟩, by simp⟩
    have er : mRng1 (mIf (mTst (mOp oGt (mVar 1) (mC (.int 1)))) (mVar 2) (mC (.int 0))) ⟨C.length, itsl i N m C.length (C.length + 1) none none none none none none none⟩ (C ++ [some (.lst []), some (.dT [] [])]) = .ok (itR 0 0) (C ++ [some (.lst []), some (.dT [] [])]) := by
      rw [ev_rng1 (j := 0) (by simp [hN']) (by decide)]
      rfl
    have el : ∀ g body sl St, loopN (itR 0 0) g body C.length (itR 0 0).n 0 sl St = .nx sl St := fun g body sl St => rfl
    rw [e_law_items, b_law_items, ev_seq, e0, seqK_nx, ev_seq, b_law_items_1, ev_for, er, forK_ok, el, seqK_nx, b_law_items_2, ev_sret]
    simp only [ev_var, List.getElem?_cons_succ, List.getElem?_cons_zero, getV_some, retK_ok, finS_rt]
    exact fin_own rfl rfl
end
/-! ### is_count of any value -/
end CL
set_option maxHeartbeats 4000000
/-! E4: what a run must lead to, told backwards. -/
namespace CT
open PySem L2
/-! ### results -/
def wR0 {α : Type} (r : R α) (Q : α → Store → Prop) (E : Exc → Store → Prop) : Prop := match r with
  | .ok a C => Q a C
  | .exc e C => E e C
  | .stuck => False
/-- kept shut, so that no goal is worked out by chance -/
structure wR {α : Type} (r : R α) (Q : α → Store → Prop) (E : Exc → Store → Prop) : Prop where
  h : wR0 r Q E
structure wO (o : Option (D × Store)) (Q : D → Store → Prop) : Prop where
  h : ∃ d C, o = some (d, C) ∧ Q d C
structure wS (r : RS) (P : RS → Prop) : Prop where
  h : P r
structure wI (b : Bool) (p q : Prop) : Prop where
  h : if b = true then p else q
abbrev noX : Exc → Store → Prop := fun _ _ => False
section
variable {α β : Type} {Q : α → Store → Prop} {E : Exc → Store → Prop} {P : RS → Prop} {F : Fr} {C : Store}
theorem w_ok {a : α} (h : Q a C) : wR (.ok a C) Q E := ⟨h⟩
theorem w_exc {e : Exc} (h : E e C) : wR (.exc e C) Q E := ⟨h⟩
theorem w_of {r : R α} {a : α} {C' : Store} (e : r = .ok a C') (h : Q a C') : wR r Q E := by rw [e]; exact ⟨h⟩
theorem w_ofx {r : R α} {x : Exc} {C' : Store} (e : r = .exc x C') (h : E x C') : wR r Q E := by rw [e]; exact ⟨h⟩
theorem w_mono {r : R α} {Q' : α → Store → Prop} {E' : Exc → Store → Prop} (h : wR r Q' E') (q : ∀ a C, Q' a C → Q a C) (x : ∀ a C, E' a C → E a C) : wR r Q E := by
  cases r with
  | ok a C => exact ⟨q a C h.h⟩
  | exc e C => exact ⟨x e C h.h⟩
  | stuck => exact ⟨h.h⟩
theorem w_eqv {r : R α} {a : α} {C : Store} (h : wR r (fun d C' => d = a ∧ C' = C) noX) : r = .ok a C := by
  cases r with
  | ok a C => obtain ⟨h1, h2⟩ := h.h; rw [h1, h2]
  | exc e C => exact h.h.elim
  | stuck => exact h.h.elim
theorem w_out {r : R α} (h : wR r Q noX) : ∃ a C, r = .ok a C ∧ Q a C := by
  cases r with
  | ok a C => exact ⟨a, C, rfl, h.h⟩
  | exc e C => exact h.h.elim
  | stuck => exact h.h.elim
theorem w_bnd {m : R α} {f : α → Store → R β} {Q : β → Store → Prop} (h : wR m (fun a C => wR (f a C) Q E) E) : wR (bnd m f) Q E := by
  cases m with
  | ok a C => exact h.h
  | exc e C => exact ⟨h.h⟩
  | stuck => exact ⟨h.h⟩
theorem w_bndS {m : R α} {sl : List (Option D)} {f : α → Store → RS} (h : wR m (fun a C => wS (f a C) P) (fun e C => P (.xc e sl C))) : wS (bndS sl m f) P := by
  cases m with
  | ok a C => exact h.h
  | exc e C => exact ⟨h.h⟩
  | stuck => exact h.h.elim
theorem wo_of {o : Option (D × Store)} {d : D} {C' : Store} {Q : D → Store → Prop} (e : o = some (d, C')) (h : Q d C') : wO o Q := ⟨d, C', e, h⟩
theorem w_ofO {o : Option (D × Store)} {Q : D → Store → Prop} (h : wO o Q) : wR (ofO o) Q E := by
  obtain ⟨d, C', e, q⟩ := h.h
  rw [e]
  exact ⟨q⟩
theorem gR {r : R α} (h : wR r Q E) : wR r Q E := h
theorem gO {o : Option (D × Store)} {Q : D → Store → Prop} (h : wO o Q) : wO o Q := h
theorem gS {r : RS} (h : wS r P) : wS r P := h
theorem gI {b : Bool} {p q : Prop} (h : wI b p q) : wI b p q := h
theorem wI_t {p q : Prop} (h : p) : wI true p q := ⟨h⟩
theorem wI_f {p q : Prop} (h : q) : wI false p q := ⟨h⟩
theorem wI_d {b : Prop} [Decidable b] {p q : Prop} (h : b → p) (g : ¬ b → q) : wI (decide b) p q := by
  by_cases hb : b
  · rw [decide_eq_true hb]; exact ⟨h hb⟩
  · rw [decide_eq_false hb]; exact ⟨g hb⟩
theorem wI_dt {b : Prop} [Decidable b] {p q : Prop} (hb : b) (h : p) : wI (decide b) p q := by rw [decide_eq_true hb]; exact ⟨h⟩
theorem wI_df {b : Prop} [Decidable b] {p q : Prop} (hb : ¬ b) (h : q) : wI (decide b) p q := by rw [decide_eq_false hb]; exact ⟨h⟩
theorem wI_not {b : Bool} {p q : Prop} (h : wI b q p) : wI (!b) p q := by cases b <;> exact ⟨h.h⟩
end
/-! ### expressions -/
section
variable {Q : D → Store → Prop} {E : Exc → Store → Prop} {F : Fr} {C : Store}
theorem w_var {i : Nat} {fl : Nat} {sl : List (Option D)} {d : D} (e : sl[i]? = some (some d)) (h : Q d C) : wR (mVar i ⟨fl, sl⟩ C) Q E := by
  refine w_of (a := d) (C' := C) ?_ h
  show (match sl[i]? with
    | some (some d) => R.ok d C
    | _ => R.stuck) = _
  rw [e]
theorem w_c {d : D} (h : Q d C) : wR (mC d F C) Q E := ⟨h⟩
theorem w_op {o : O2} {a b : ME} (h : wR (a F C) (fun x C1 => wR (b F C1) (fun y C2 => wO (o x y C2) Q) E) E) : wR (mOp o a b F C) Q E :=
  w_bnd (w_mono h (fun _ _ g => w_bnd (w_mono g (fun _ _ g => w_ofO g) fun _ _ z => z)) fun _ _ z => z)
theorem w_un {o : O1} {a : ME} (h : wR (a F C) (fun x C1 => wO (o x C1) Q) E) : wR (mUn o a F C) Q E :=
  w_bnd (w_mono h (fun _ _ g => w_ofO g) fun _ _ z => z)
theorem w_ap {o : OA} {a : MA} (h : wR (a F C) (fun x C1 => wO (o x C1) Q) E) : wR (mAp o a F C) Q E :=
  w_bnd (w_mono h (fun _ _ g => w_ofO g) fun _ _ z => z)
theorem w_nil {Q : List D → Store → Prop} (h : Q [] C) : wR (mNil F C) Q E := ⟨h⟩
theorem w_cons {a : ME} {r : MA} {Q : List D → Store → Prop} (h : wR (a F C) (fun x C1 => wR (r F C1) (fun xs C2 => Q (x :: xs) C2) E) E) : wR (mCons a r F C) Q E :=
  w_bnd (w_mono h (fun _ _ g => w_bnd (w_mono g (fun _ _ g => w_ok g) fun _ _ z => z)) fun _ _ z => z)
theorem w_call {m : MF} {dds : List D} {a : MA} (h : wR (a F C) (fun xs C1 => wR (m (xs ++ dds) C1) Q E) E) : wR (mCall m dds a F C) Q E := w_bnd h
theorem w_tst {a : ME} {Q : Bool → Store → Prop} (h : wR (a F C) (fun d C1 => ∃ b, d = .bl b ∧ Q b C1) E) : wR (mTst a F C) Q E :=
  w_bnd (w_mono h (fun d C1 g => by obtain ⟨b, rfl, q⟩ := g; exact w_ok q) fun _ _ z => z)
theorem w_bl {b : Bool} {q : Bool → Prop} (h : q b) : ∃ b', D.bl b = .bl b' ∧ q b' := ⟨b, rfl, h⟩
theorem w_tand {a b : MT} {Q : Bool → Store → Prop} (h : wR (a F C) (fun x C1 => wI x (wR (b F C1) Q E) (Q false C1)) E) : wR (tAndM a b F C) Q E :=
  w_bnd (w_mono h (fun x C1 g => by
    cases x
    · exact w_ok g.h
    · exact g.h) fun _ _ z => z)
theorem w_tor {a b : MT} {Q : Bool → Store → Prop} (h : wR (a F C) (fun x C1 => wI x (Q true C1) (wR (b F C1) Q E)) E) : wR (tOrM a b F C) Q E :=
  w_bnd (w_mono h (fun x C1 g => by
    cases x
    · exact g.h
    · exact w_ok g.h) fun _ _ z => z)
theorem w_tnot {a : MT} {Q : Bool → Store → Prop} (h : wR (a F C) (fun x C1 => Q (!x) C1) E) : wR (tNotM a F C) Q E := w_bnd (w_mono h (fun _ _ g => w_ok g) fun _ _ z => z)
theorem w_yes {Q : Bool → Store → Prop} (h : Q true C) : wR (tYesM F C) Q E := ⟨h⟩
theorem w_and {a b : ME} (h : wR (a F C) (fun d C1 => ∃ x, d = .bl x ∧ wI x (wR (b F C1) Q E) (Q (.bl false) C1)) E) : wR (mAnd a b F C) Q E :=
  w_bnd (w_mono h (fun d C1 g => by
    obtain ⟨x, rfl, q⟩ := g
    cases x
    · exact w_ok q.h
    · exact q.h) fun _ _ z => z)
theorem w_or {a b : ME} (h : wR (a F C) (fun d C1 => ∃ x, d = .bl x ∧ wI x (Q (.bl true) C1) (wR (b F C1) Q E)) E) : wR (mOr a b F C) Q E :=
  w_bnd (w_mono h (fun d C1 g => by
    obtain ⟨x, rfl, q⟩ := g
    cases x
    · exact q.h
    · exact w_ok q.h) fun _ _ z => z)
theorem w_not {a : ME} (h : wR (a F C) (fun d C1 => ∃ x, d = .bl x ∧ Q (.bl (!x)) C1) E) : wR (mNot a F C) Q E :=
  w_bnd (w_mono h (fun d C1 g => by obtain ⟨x, rfl, q⟩ := g; exact w_ok q) fun _ _ z => z)
theorem w_if {t : MT} {a b : ME} (h : wR (t F C) (fun x C1 => wI x (wR (a F C1) Q E) (wR (b F C1) Q E)) E) : wR (mIf t a b F C) Q E :=
  w_bnd (w_mono h (fun x C1 g => by cases x <;> exact g.h) fun _ _ z => z)
theorem w_chain {o o' : O2} {a b c : ME} (h : wR (a F C) (fun x C1 => wR (b F C1) (fun y C2 => wO (o x y C2) fun z C3 => ∃ t, z = .bl t ∧ wI t (wR (c F C3) (fun w C4 => wO (o' y w C4) Q) E) (Q (.bl false) C3)) E) E) : wR (mChain o o' a b c F C) Q E :=
  w_bnd (w_mono h (fun x C1 g => w_bnd (w_mono g (fun y C2 g => w_bnd (w_ofO (by
    obtain ⟨d, C3, e, t, rfl, q⟩ := g.h
    refine wo_of e ?_
    cases t
    · exact w_ok q.h
    · exact w_bnd (w_mono q.h (fun _ _ g => w_ofO g) fun _ _ z => z)))) fun _ _ z => z)) fun _ _ z => z)
theorem w_prop {c : Nat} {m : MF} {mo : ME} (h : wR (mo F C) (fun d C1 => ∃ fs, d = .obj c fs ∧ wR (m [d] C1) Q noX) E) : wR (mProp c m mo F C) Q E :=
  w_bnd (w_mono h (fun d C1 g => by
    obtain ⟨fs, rfl, q⟩ := g
    show wR (if c = c then (match m [.obj c fs] C1 with
      | .ok d C2 => R.ok d C2
      | _ => R.stuck) else R.stuck) Q E
    rw [if_pos rfl]
    obtain ⟨a, C2, e, q⟩ := w_out q
    rw [e]
    exact w_ok q) fun _ _ z => z)
theorem w_meth {c : Nat} {m : MF} {dds : List D} {mo : ME} {a : MA} (h : wR (mo F C) (fun d C1 => ∃ fs, d = .obj c fs ∧ wR (a F C1) (fun xs C2 => wR (m (d :: (xs ++ dds)) C2) Q E) E) E) : wR (mMeth c m dds mo a F C) Q E :=
  w_bnd (w_mono h (fun d C1 g => by
    obtain ⟨fs, rfl, q⟩ := g
    simp only [vO, if_true]
    exact w_bnd q) fun _ _ z => z)
theorem w_obj {c : Nat} {fs : List D} {q : Prop} (h : q) : ∃ gs, D.obj c fs = .obj c gs ∧ q := ⟨fs, rfl, h⟩
theorem w_dget {a b c : ME} (h : wR (a F C) (fun x C1 => (vD x C1).isSome = true ∧ wR (b F C1) (fun y C2 => wR (c F C2) (fun z C3 => wO (oDGet x y z C3) Q) E) E) E) : wR (mDGet a b c F C) Q E :=
  w_bnd (w_mono h (fun x C1 g => by
    rw [if_pos g.1]
    exact w_bnd (w_mono g.2 (fun _ _ g => w_bnd (w_mono g (fun _ _ g => w_ofO g) fun _ _ z => z)) fun _ _ z => z)) fun _ _ z => z)
theorem w_isi {kn : List Nat} {t : Cc} {m : ME} (h : wR (m F C) (fun d C1 => ∃ b, isi kn d C1 t = some b ∧ Q (.bl b) C1) E) : wR (mIsi kn t m F C) Q E :=
  w_bnd (w_mono h (fun d C1 g => by obtain ⟨b, e, q⟩ := g; rw [e]; exact w_ok q) fun _ _ z => z)
theorem w_isi2 {kn : List Nat} {t u : Cc} {m : ME} (h : wR (m F C) (fun d C1 => ∃ b b', isi kn d C1 t = some b ∧ isi kn d C1 u = some b' ∧ Q (.bl (b || b')) C1) E) : wR (mIsi2 kn t u m F C) Q E :=
  w_bnd (w_mono h (fun d C1 g => by obtain ⟨b, b', e, e', q⟩ := g; rw [e, e']; exact w_ok q) fun _ _ z => z)
theorem w_part {m : ME} {Q : Option Int → Store → Prop} (h : wR (m F C) (fun d C1 => ∃ i, d = .int i ∧ Q (some i) C1) E) : wR (mPart m F C) Q E :=
  w_bnd (w_mono h (fun d C1 g => by obtain ⟨b, rfl, q⟩ := g; exact w_ok q) fun _ _ z => z)
theorem w_noPart {Q : Option Int → Store → Prop} (h : Q none C) : wR (mNoPart F C) Q E := ⟨h⟩
theorem w_slL {own : Bool} {a : ME} {l u : Fr → Store → R (Option Int)} (h : wR (a F C) (fun x C1 => wR (l F C1) (fun lo C2 => wR (u F C2) (fun hi C3 => ∃ xs, vLs x C3 = some xs ∧ Q (mkL own (cutD xs lo hi) C3).1 (mkL own (cutD xs lo hi) C3).2) E) E) E) : wR (mSlL own a l u F C) Q E :=
  w_bnd (w_mono h (fun _ _ g => w_bnd (w_mono g (fun _ _ g => w_bnd (w_mono g (fun _ _ g => by obtain ⟨xs, e, q⟩ := g; simp only [e]; exact w_ok q) fun _ _ z => z)) fun _ _ z => z)) fun _ _ z => z)
theorem w_slA {a : ME} {l u : Fr → Store → R (Option Int)} (h : wR (a F C) (fun x C1 => wR (l F C1) (fun lo C2 => wR (u F C2) (fun hi C3 => ∃ xs, x = .tup xs ∧ Q (.tup (cutD xs lo hi)) C3) E) E) E) : wR (mSlA a l u F C) Q E :=
  w_bnd (w_mono h (fun _ _ g => w_bnd (w_mono g (fun lo _ g => w_bnd (w_mono g (fun hi _ g => by
    obtain ⟨xs, rfl, q⟩ := g
    simp only [vT]
    split
    · rename_i hh
      have e : cutD xs lo hi = xs := by
        unfold cutD
        rw [hh.1, hh.2]
        simp
      rw [e] at q
      exact w_ok q
    · exact w_ok q) fun _ _ z => z)) fun _ _ z => z)) fun _ _ z => z)
theorem w_int {i : Int} {q : Int → Prop} (h : q i) : ∃ j, D.int i = .int j ∧ q j := ⟨i, rfl, h⟩
end
/-! ### operators -/
section
variable {Q : D → Store → Prop} {C : Store}
theorem wo_add {a b : Int} (h : Q (.int (a + b)) C) : wO (oAdd (.int a) (.int b) C) Q := wo_of rfl h
theorem wo_sub {a b : Int} (h : Q (.int (a - b)) C) : wO (oSub (.int a) (.int b) C) Q := wo_of rfl h
theorem wo_neg {a : Int} (h : Q (.int (-a)) C) : wO (oNeg (.int a) C) Q := wo_of rfl h
theorem wo_lt {a b : Int} (h : Q (.bl (decide (a < b))) C) : wO (oLt (.int a) (.int b) C) Q := wo_of rfl h
theorem wo_le {a b : Int} (h : Q (.bl (decide (a ≤ b))) C) : wO (oLe (.int a) (.int b) C) Q := wo_of rfl h
theorem wo_gt {a b : Int} (h : Q (.bl (decide (b < a))) C) : wO (oGt (.int a) (.int b) C) Q := wo_of rfl h
theorem wo_ge {a b : Int} (h : Q (.bl (decide (b ≤ a))) C) : wO (oGe (.int a) (.int b) C) Q := wo_of rfl h
theorem wo_eq {a b : Int} (h : Q (.bl (decide (a = b))) C) : wO (oEqA false (.int a) (.int b) C) Q := wo_of rfl h
theorem wo_ne {a b : Int} (h : Q (.bl (!decide (a = b))) C) : wO (oEqA true (.int a) (.int b) C) Q := wo_of rfl h
theorem wo_eqS {a b : Str} (h : Q (.bl (decide (a = b))) C) : wO (oEqA false (.str a) (.str b) C) Q := wo_of rfl h
theorem wo_neS {a b : Str} (h : Q (.bl (!decide (a = b))) C) : wO (oEqA true (.str a) (.str b) C) Q := wo_of rfl h
theorem wo_mul {a b : Int} (e : cMul a b = true) (h : Q (.int (a * b)) C) : wO (oMul (.int a) (.int b) C) Q := wo_of (ev_mul C e) h
theorem wo_min {a b : Int} (h : Q (.int (min a b)) C) : wO (oMin2 [.int a, .int b] C) Q := wo_of (ev_min C a b) h
theorem wo_max {a b : Int} (h : Q (.int (max a b)) C) : wO (oMax2 [.int a, .int b] C) Q := wo_of (ev_max C a b) h
theorem wo_int {a : Int} (h : Q (.int a) C) : wO (oInt [.int a] C) Q := wo_of rfl h
theorem wo_abs {a : Int} (h : Q (.int (a.natAbs : Int)) C) : wO (oAbs [.int a] C) Q := wo_of (ev_abs C a) h
theorem wo_lst {own : Bool} {xs : List D} (e : szN xs.length = true) (h : Q (mkL own xs C).1 (mkL own xs C).2) : wO (oLst own xs C) Q := by
  refine wo_of ?_ h
  unfold oLst
  rw [if_pos e]
theorem wo_lstF {xs : List D} (e : szN xs.length = true) (h : Q (.lst xs) C) : wO (oLst false xs C) Q := wo_lst e h
theorem wo_lstT {xs : List D} (e : szN xs.length = true) (h : Q (.cell C.length) (C ++ [some (.lst xs)])) : wO (oLst true xs C) Q := wo_lst e h
theorem w_dnewF {E : Exc → Store → Prop} {F : Fr} (h : Q (.dT [] []) C) : wR (mDNew false F C) Q E := ⟨h⟩
theorem w_dnewT {E : Exc → Store → Prop} {F : Fr} (h : Q (.cell C.length) (C ++ [some (.dT [] [])])) : wR (mDNew true F C) Q E := ⟨h⟩
theorem w_slLF {E : Exc → Store → Prop} {F : Fr} {a : ME} {l u : Fr → Store → R (Option Int)} (h : wR (a F C) (fun x C1 => wR (l F C1) (fun lo C2 => wR (u F C2) (fun hi C3 => ∃ xs, vLs x C3 = some xs ∧ Q (.lst (cutD xs lo hi)) C3) E) E) E) : wR (mSlL false a l u F C) Q E := w_slL h
theorem wo_tup {xs : List D} (e : szN xs.length = true) (h : Q (.tup xs) C) : wO (oTup xs C) Q := by
  refine wo_of ?_ h
  unfold oTup
  rw [if_pos e]
theorem wo_fld {c n : Nat} {fs : List D} {d : D} (e : fs[n]? = some d) (h : Q d C) : wO (oFld c n (.obj c fs) C) Q := by
  refine wo_of ?_ h
  rw [ev_fld, e]
  rfl
theorem wo_ix {x : D} {xs : List D} {i : Int} {k : Nat} {d : D} (e : vS x C = some xs) (hi : i = k) (hk : xs[k]? = some d) (h : Q d C) : wO (oIx x (.int i) C) Q := by
  subst hi
  have hl : k < xs.length := (List.getElem?_eq_some_iff.mp hk).1
  have e2 : atI xs (k : Int) = some d := by
    unfold atI ixN
    have h0 : (0 : Int) ≤ k := by omega
    simp [hl]
    exact (List.getElem?_eq_some_iff.mp hk).2
  refine wo_of (d := d) (C' := C) ?_ h
  unfold oIx
  rw [e]
  simp only [Option.bind_some, e2, Option.map_some]
end
/-! ### statements -/
def thn (b : MS) (fl : Nat) (P : RS → Prop) : RS → Prop := fun r => match r with
  | .nx sl C => wS (b ⟨fl, sl⟩ C) P
  | r => P r
section
variable {P : RS → Prop} {F : Fr} {C : Store} {E : Exc → Store → Prop}
theorem w_seq {a b : MS} {fl : Nat} {sl : List (Option D)} (h : wS (a ⟨fl, sl⟩ C) (thn b fl P)) : wS (sSeq a b ⟨fl, sl⟩ C) P := by
  have h := h.h
  unfold sSeq
  cases e : a ⟨fl, sl⟩ C with
  | nx sl C1 => rw [e] at h; exact h
  | rt d C1 => rw [e] at h; exact ⟨h⟩
  | bk d C1 => rw [e] at h; exact ⟨h⟩
  | ct d C1 => rw [e] at h; exact ⟨h⟩
  | xc x d C1 => rw [e] at h; exact ⟨h⟩
  | stuck => rw [e] at h; exact ⟨h⟩
theorem thn_nx {b : MS} {fl : Nat} {sl : List (Option D)} (h : wS (b ⟨fl, sl⟩ C) P) : thn b fl P (.nx sl C) := h
theorem thn_rt {b : MS} {fl : Nat} {d : D} (h : P (.rt d C)) : thn b fl P (.rt d C) := h
theorem thn_bk {b : MS} {fl : Nat} {sl : List (Option D)} (h : P (.bk sl C)) : thn b fl P (.bk sl C) := h
theorem thn_ct {b : MS} {fl : Nat} {sl : List (Option D)} (h : P (.ct sl C)) : thn b fl P (.ct sl C) := h
theorem thn_xc {b : MS} {fl : Nat} {e : Exc} {sl : List (Option D)} (h : P (.xc e sl C)) : thn b fl P (.xc e sl C) := h
theorem w_next {fl : Nat} {sl : List (Option D)} (h : P (.nx sl C)) : wS (sNext ⟨fl, sl⟩ C) P := ⟨h⟩
theorem w_brk {fl : Nat} {sl : List (Option D)} (h : P (.bk sl C)) : wS (sBrk ⟨fl, sl⟩ C) P := ⟨h⟩
theorem w_cnt {fl : Nat} {sl : List (Option D)} (h : P (.ct sl C)) : wS (sCnt ⟨fl, sl⟩ C) P := ⟨h⟩
theorem w_drop {m : ME} {fl : Nat} {sl : List (Option D)} (h : wR (m ⟨fl, sl⟩ C) (fun _ C1 => P (.nx sl C1)) (fun e C1 => P (.xc e sl C1))) : wS (sDrop m ⟨fl, sl⟩ C) P := w_bndS (w_mono h (fun _ _ g => ⟨g⟩) fun _ _ z => z)
theorem w_ret {m : ME} {fl : Nat} {sl : List (Option D)} (h : wR (m ⟨fl, sl⟩ C) (fun d C1 => P (.rt d C1)) (fun e C1 => P (.xc e sl C1))) : wS (sRet m ⟨fl, sl⟩ C) P := w_bndS (w_mono h (fun _ _ g => ⟨g⟩) fun _ _ z => z)
theorem w_retN (h : P (.rt .non C)) : wS (sRetN F C) P := ⟨h⟩
theorem w_sif {t : MT} {a b : MS} {fl : Nat} {sl : List (Option D)} (h : wR (t ⟨fl, sl⟩ C) (fun x C1 => wI x (wS (a ⟨fl, sl⟩ C1) P) (wS (b ⟨fl, sl⟩ C1) P)) (fun e C1 => P (.xc e sl C1))) : wS (sIf t a b ⟨fl, sl⟩ C) P :=
  w_bndS (w_mono h (fun x C1 g => by cases x <;> exact g.h) fun _ _ z => z)
theorem w_asg {m : ME} {i fl : Nat} {sl : List (Option D)} (h : wR (m ⟨fl, sl⟩ C) (fun d C1 => P (.nx (sl.set i (some d)) C1)) (fun e C1 => P (.xc e sl C1))) : wS (sAsg m (gN i) ⟨fl, sl⟩ C) P := w_bndS (w_mono h (fun _ _ g => ⟨g⟩) fun _ _ z => z)
theorem w_asgT {m : ME} {is : List Nat} {fl : Nat} {sl : List (Option D)} (h : wR (m ⟨fl, sl⟩ C) (fun d C1 => ∃ ds sl', d = .tup ds ∧ setAll is ds sl = some sl' ∧ P (.nx sl' C1)) (fun e C1 => P (.xc e sl C1))) : wS (sAsg m (gT is) ⟨fl, sl⟩ C) P :=
  w_bndS (w_mono h (fun x C1 g => by obtain ⟨ds, sl', rfl, e, q⟩ := g; show wS (asgS (setAll is ds sl) C1) P; rw [e]; exact ⟨q⟩) fun _ _ z => z)
theorem w_par {m : MA} {is : List Nat} {fl : Nat} {sl : List (Option D)} (h : wR (m ⟨fl, sl⟩ C) (fun ds C1 => ∃ sl', setAll is ds sl = some sl' ∧ P (.nx sl' C1)) (fun e C1 => P (.xc e sl C1))) : wS (sPar is m ⟨fl, sl⟩ C) P :=
  w_bndS (w_mono h (fun x C1 g => by obtain ⟨sl', e, q⟩ := g; show wS (asgS (setAll is x sl) C1) P; rw [e]; exact ⟨q⟩) fun _ _ z => z)
theorem w_raise {c n : Nat} {ma : MA} {fl : Nat} {sl : List (Option D)} (h : wR (ma ⟨fl, sl⟩ C) (fun ds C1 => ds.length = n ∧ P (.xc ⟨c, ds.reverse⟩ sl C1)) (fun e C1 => P (.xc e sl C1))) : wS (sRaise c n ma ⟨fl, sl⟩ C) P :=
  w_bndS (w_mono h (fun x C1 g => by rw [if_pos g.1]; exact ⟨g.2⟩) fun _ _ z => z)
theorem w_eq {r r' : RS} (e : r = r') (h : P r') : wS r P := by rw [e]; exact ⟨h⟩
/-- what stands behind a def's body -/
def fnl (n : Nat) (Q : D → Store → Prop) (E : Exc → Store → Prop) : RS → Prop := fun r => wR (finS n r) Q E
theorem w_fin {n : Nat} {r : RS} {Q : D → Store → Prop} (h : wS r (fnl n Q E)) : wR (finS n r) Q E := h.h
theorem fnl_int {n : Nat} {Q : D → Store → Prop} {i : Int} (h : Q (.int i) (C.take n)) : fnl n Q E (.rt (.int i) C) := w_ok h
theorem fnl_bl {n : Nat} {Q : D → Store → Prop} {i : Bool} (h : Q (.bl i) (C.take n)) : fnl n Q E (.rt (.bl i) C) := w_ok h
theorem fnl_non {n : Nat} {Q : D → Store → Prop} (h : Q .non (C.take n)) : fnl n Q E (.rt .non C) := w_ok h
theorem fnl_str {n : Nat} {Q : D → Store → Prop} {i : Str} (h : Q (.str i) (C.take n)) : fnl n Q E (.rt (.str i) C) := w_ok h
theorem fnl_nx {n : Nat} {Q : D → Store → Prop} {sl : List (Option D)} (h : Q .non (C.take n)) : fnl n Q E (.nx sl C) := w_ok h
theorem fnl_d {n : Nat} {Q : D → Store → Prop} {d : D} (e : ∀ i, d ≠ .cell i) (hc : cb n d = true) (h : Q d (C.take n)) : fnl n Q E (.rt d C) := by
  have z : fz n d C = d := by
    unfold fz
    split
    · exact absurd rfl (e _)
    · rfl
  show wR (fin n d C) Q E
  unfold fin
  rw [z, if_pos hc]
  exact w_ok h
theorem fnl_xc {n : Nat} {Q : D → Store → Prop} {x : Exc} {sl : List (Option D)} (hc : cbL n x.fs = true) (h : E x (C.take n)) : fnl n Q E (.xc x sl C) := by
  show wR (if cbL n x.fs = true then R.exc x (C.take n) else R.stuck) Q E
  rw [if_pos hc]
  exact w_exc h
end
/-! ### loops -/
def lpP (I : Nat → List (Option D) → Store → Prop) (j : Nat) (P : RS → Prop) : RS → Prop := fun r => match r with
  | .nx sl C => I j sl C
  | .ct sl C => I j sl C
  | .bk sl C => P (.nx sl C)
  | .rt d C => P (.rt d C)
  | .xc e sl C => P (.xc e sl C)
  | .stuck => False
theorem lp_nx {I : Nat → List (Option D) → Store → Prop} {j : Nat} {P : RS → Prop} {sl : List (Option D)} {C : Store} (h : I j sl C) : lpP I j P (.nx sl C) := h
theorem lp_rt {I : Nat → List (Option D) → Store → Prop} {j : Nat} {P : RS → Prop} {d : D} {C : Store} (h : P (.rt d C)) : lpP I j P (.rt d C) := h
theorem lp_bk {I : Nat → List (Option D) → Store → Prop} {j : Nat} {P : RS → Prop} {sl : List (Option D)} {C : Store} (h : P (.nx sl C)) : lpP I j P (.bk sl C) := h
theorem lp_xc {I : Nat → List (Option D) → Store → Prop} {j : Nat} {P : RS → Prop} {e : Exc} {sl : List (Option D)} {C : Store} (h : P (.xc e sl C)) : lpP I j P (.xc e sl C) := h
theorem loop_w {S : Store → Prop} {it : ItD} {xs : List D} (p : ItOn S it xs) {g : MG} {body : MS} {fl : Nat} {P : RS → Prop} (I : Nat → List (Option D) → Store → Prop) (hS : ∀ j sl C, I j sl C → S C)
    (step : ∀ j x sl C, xs[j]? = some x → I j sl C → ∃ sl1, g x sl = some sl1 ∧ wS (body ⟨fl, sl1⟩ C) (lpP I (j + 1) P)) (fin : ∀ sl C, I xs.length sl C → P (.nx sl C)) :
    ∀ r j sl C, r + j = xs.length → I j sl C → wS (loopN it g body fl r j sl C) P
  | 0, j, sl, C, h, i => by
    have e : j = xs.length := by omega
    subst e
    unfold loopN
    rw [if_pos (p.fin C (hS _ _ _ i))]
    exact ⟨fin sl C i⟩
  | r + 1, j, sl, C, h, i => by
    have hj : j < xs.length := by omega
    obtain ⟨sl1, h1, h2⟩ := step j xs[j] sl C (List.getElem?_eq_getElem hj) i
    unfold loopN
    rw [p.item j C (hS _ _ _ i) hj, List.getElem?_eq_getElem hj]
    simp only [h1]
    have h2 := h2.h
    unfold lpP at h2
    cases e : body ⟨fl, sl1⟩ C with
    | nx sl2 C2 => rw [e] at h2; exact loop_w p I hS step fin r (j + 1) sl2 C2 (by omega) h2
    | ct sl2 C2 => rw [e] at h2; exact loop_w p I hS step fin r (j + 1) sl2 C2 (by omega) h2
    | bk sl2 C2 => rw [e] at h2; exact ⟨h2⟩
    | rt d C2 => rw [e] at h2; exact ⟨h2⟩
    | xc x sl2 C2 => rw [e] at h2; exact ⟨h2⟩
    | stuck => rw [e] at h2; exact h2.elim
/-! ### comprehensions -/
theorem lc_w {S : Store → Prop} {it : ItD} {xs : List D} (p : ItOn S it xs) {g : MG} {tt : MT} {te : ME} {n : Nat} {sl : List (Option D)} (J : Nat → List D → Store → Prop) (hS : ∀ j acc C, J j acc C → S C) (hz : ∀ j acc C, J j acc C → acc.length < 16777216)
    (step : ∀ j x acc C, xs[j]? = some x → C[n]? = some (some (.lst acc)) → J j acc C → ∃ sl1, g x sl = some sl1 ∧ wR (tt ⟨n, sl1⟩ C) (fun b C1 => wI b (wR (te ⟨n, sl1⟩ C1) (fun y C2 => ∃ acc', C2[n]? = some (some (.lst acc')) ∧ acc'.length < 16777216 ∧ J (j + 1) (acc' ++ [y]) (C2.set n (some (.lst (acc' ++ [y])))) ∧ n < C2.length) noX) (∃ acc', C1[n]? = some (some (.lst acc')) ∧ J (j + 1) acc' C1)) noX) :
    ∀ r j acc C, r + j = xs.length → C[n]? = some (some (.lst acc)) → J j acc C → ∃ acc' C', lcN it g tt te n sl r j C = .ok () C' ∧ C'[n]? = some (some (.lst acc')) ∧ J xs.length acc' C'
  | 0, j, acc, C, h, c, i => by
    have e : j = xs.length := by omega
    subst e
    unfold lcN
    rw [if_pos (p.fin C (hS _ _ _ i))]
    exact ⟨acc, C, rfl, c, i⟩
  | r + 1, j, acc, C, h, c, i => by
    have hj : j < xs.length := by omega
    obtain ⟨sl1, h1, h2⟩ := step j xs[j] acc C (List.getElem?_eq_getElem hj) c i
    unfold lcN
    rw [p.item j C (hS _ _ _ i) hj, List.getElem?_eq_getElem hj]
    simp only [h1]
    obtain ⟨b, C1, e1, h3⟩ := w_out h2
    rw [e1]
    simp only [bn0_ok]
    cases b with
    | false =>
      obtain ⟨acc', c1, i1⟩ := h3.h
      rw [if_neg (by decide)]
      exact lc_w p J hS hz step r (j + 1) acc' C1 (by omega) c1 i1
    | true =>
      obtain ⟨y, C2, e2, acc', c2, z, i2, hn⟩ := w_out h3.h
      rw [if_pos rfl, e2]
      simp only [bn0_ok]
      rw [c2]
      have hs : szN (acc'.length + 1) = true := by simp only [szN, decide_eq_true_eq]; omega
      simp only [hs, if_true]
      exact lc_w p J hS hz step r (j + 1) (acc' ++ [y]) _ (by omega) (List.getElem?_set_self hn) i2
/-- [e for t in it if c], that may draw -/
theorem w_lc {mi : MI} {g : MG} {tt : MT} {te : ME} {vs : List Nat} {F : Fr} {C C1 : Store} {it : ItD} {xs : List D} {S : Store → Prop} {Q : D → Store → Prop} {E : Exc → Store → Prop} (hi : mi F C = .ok it C1) (p : ItOn S it xs) (J : Nat → List D → Store → Prop) (hS : ∀ j acc C, J j acc C → S C) (hz : ∀ j acc C, J j acc C → acc.length < 16777216)
    (i0 : J 0 [] (C1 ++ [some (.lst [])]))
    (step : ∀ j x acc C, xs[j]? = some x → C[C1.length]? = some (some (.lst acc)) → J j acc C → ∃ sl1, g x (wipeD F.sl vs) = some sl1 ∧ wR (tt ⟨C1.length, sl1⟩ C) (fun b C2 => wI b (wR (te ⟨C1.length, sl1⟩ C2) (fun y C3 => ∃ acc', C3[C1.length]? = some (some (.lst acc')) ∧ acc'.length < 16777216 ∧ J (j + 1) (acc' ++ [y]) (C3.set C1.length (some (.lst (acc' ++ [y])))) ∧ C1.length < C3.length) noX) (∃ acc', C2[C1.length]? = some (some (.lst acc')) ∧ J (j + 1) acc' C2)) noX)
    (fin : ∀ acc C, C[C1.length]? = some (some (.lst acc)) → J xs.length acc C → cbL C1.length acc = true ∧ Q (.lst acc) (C.take C1.length)) : wR (mLc false mi g tt te vs F C) Q E := by
  obtain ⟨acc, C', e, c, i⟩ := lc_w p J hS hz step it.n 0 [] (C1 ++ [some (.lst [])]) (by rw [p.n]; omega) (by simp) i0
  obtain ⟨f1, f2⟩ := fin acc C' c i
  unfold mLc
  rw [hi]
  simp only [bnd_ok]
  rw [e]
  simp only [bn0_ok]
  unfold lcEnd
  rw [if_neg (by decide), c]
  simp only [f1, if_true]
  exact w_ok f2
end CT
set_option maxHeartbeats 4000000
/-! E5: more steps told backwards. -/
namespace CT
open PySem L2
abbrev accS (C : Store) (acc : List D) : Store := C ++ [some (.lst acc)]
/-- [e for t in it if c], nothing changed -/
theorem w_lcP {mi : MI} {it : ItD} {xs : List D} {g : MG} {tt : MT} {te : ME} {vs : List Nat} {F : Fr} {C : Store} {Q : D → Store → Prop} {E : Exc → Store → Prop} (hi : mi F C = .ok it C) (p : PureIt it xs) (f : D → Bool) (h : D → D) (sz : xs.length ≤ 16777215)
    (st : ∀ x ∈ xs, ∃ sl1, g x (wipeD F.sl vs) = some sl1 ∧ ∀ acc, wR (tt ⟨C.length, sl1⟩ (accS C acc)) (fun b C' => b = f x ∧ C' = accS C acc) noX ∧ (f x = true → wR (te ⟨C.length, sl1⟩ (accS C acc)) (fun d C' => d = h x ∧ C' = accS C acc) noX))
    (hc : ∀ x ∈ xs, f x = true → cb C.length (h x) = true) (q : Q (.lst ((xs.filter f).map h)) C) : wR (mLc false mi g tt te vs F C) Q E := by
  refine w_of (ev_lc p f h hi sz (fun x hx => ?_) hc) q
  obtain ⟨sl1, h1, h2⟩ := st x hx
  refine ⟨sl1, h1, fun acc => ⟨?_, fun hf => ?_⟩⟩
  · obtain ⟨b, C', e, rfl, rfl⟩ := w_out (h2 acc).1
    exact e
  · obtain ⟨b, C', e, rfl, rfl⟩ := w_out ((h2 acc).2 hf)
    exact e
theorem fnl_p {n : Nat} {Q : D → Store → Prop} {E : Exc → Store → Prop} {d : D} {C : Store} (hc : cb 0 d = true) (h : Q d (C.take n)) : fnl n Q E (.rt d C) :=
  fnl_d (fun i e => by subst e; simp [cb] at hc) (cb_mono (Nat.zero_le _) hc) h
theorem w_mkT {Q : D → Store → Prop} {E : Exc → Store → Prop} {F : Fr} {C : Store} {own : Bool} {c nf : Nat} {m : MF} {dds : List D} {a : MA} (h : wR (a F C) (fun ds C1 => wR (mMake own c nf m dds (fun _ _ => .ok ds C1) F C1) Q E) E) : wR (mMake own c nf m dds a F C) Q E := by
  unfold mMake at h ⊢
  exact w_bnd h
/-- a list of cells' store that has one cell more -/
theorem take_app {C Y : Store} {n : Nat} (h : C.length = n) : (C ++ Y).take n = C := by subst h; simp
theorem wo_tupL {xs : List D} {C : Store} {Q : D → Store → Prop} (h : Q (.tup xs) C) : wO (oTupOf [.lst xs] C) Q := wo_of rfl h
theorem wo_tupT {xs : List D} {C : Store} {Q : D → Store → Prop} (h : Q (.tup xs) C) : wO (oTupOf [.tup xs] C) Q := wo_of rfl h
theorem wo_catF {xs ys : List D} {C : Store} {Q : D → Store → Prop} (e : xs.length + ys.length ≤ 16777216) (h : Q (.lst (xs ++ ys)) C) : wO (oCat false (.lst xs) (.lst ys) C) Q := wo_of (by simp [oCat, vL, szN, e, mkL]) h
/-! ### writing -/
theorem w_setL {me mo mi : ME} {fl : Nat} {sl : List (Option D)} {C : Store} {P : RS → Prop} (h : wR (me ⟨fl, sl⟩ C) (fun v C1 => wR (mo ⟨fl, sl⟩ C1) (fun o C2 => wR (mi ⟨fl, sl⟩ C2) (fun x C3 => ∃ n i ds j C4, x = .int n ∧ cL o C3 = some (i, ds) ∧ ixN ds.length n = some j ∧ wr fl i (.lst (ds.set j v)) C3 = some C4 ∧ P (.nx sl C4)) (fun e C => P (.xc e sl C))) (fun e C => P (.xc e sl C))) (fun e C => P (.xc e sl C))) : wS (sSetL me mo mi ⟨fl, sl⟩ C) P :=
  w_bndS (w_mono h (fun v C1 g => w_bndS (w_mono g (fun o C2 g => w_bndS (w_mono g (fun x C3 g => by
    obtain ⟨n, i, ds, j, C4, rfl, e1, e2, e3, q⟩ := g
    simp only [e1, e2, e3]
    exact ⟨q⟩) fun _ _ z => z)) fun _ _ z => z)) fun _ _ z => z)
theorem w_put {me mo mi : ME} {fl : Nat} {sl : List (Option D)} {C : Store} {P : RS → Prop} (h : wR (me ⟨fl, sl⟩ C) (fun v C1 => wR (mo ⟨fl, sl⟩ C1) (fun o C2 => wR (mi ⟨fl, sl⟩ C2) (fun x C3 => ∃ C4, sPut (fun _ _ => .ok v C3) (fun _ _ => .ok o C3) (fun _ _ => .ok x C3) ⟨fl, sl⟩ C3 = .nx sl C4 ∧ P (.nx sl C4)) (fun e C => P (.xc e sl C))) (fun e C => P (.xc e sl C))) (fun e C => P (.xc e sl C))) : wS (sPut me mo mi ⟨fl, sl⟩ C) P :=
  w_bndS (w_mono h (fun v C1 g => w_bndS (w_mono g (fun o C2 g => w_bndS (w_mono g (fun x C3 g => by
    obtain ⟨C4, e, q⟩ := g
    unfold sPut at e
    simp only [bndS_ok] at e
    exact w_eq e q) fun _ _ z => z)) fun _ _ z => z)) fun _ _ z => z)
theorem wr_hi {fl i : Nat} {c : Cell} {C : Store} (h : fl ≤ i) : wr fl i c C = some (C.set i (some c)) := by
  unfold wr
  rw [if_neg (fun z => by omega)]
theorem ixN_at {n : Nat} {i : Int} (h0 : 0 ≤ i) (h1 : i < n) : ixN n i = some i.toNat := by
  unfold ixN
  rw [if_pos h0, if_pos h1]
end CT
set_option maxHeartbeats 4000000
/-! E6: walks and comprehensions, step by step. -/
namespace CT
open PySem L2
section
variable {E : Exc → Store → Prop} {F : Fr} {C : Store} {P : RS → Prop}
theorem w_pre {a b : MS} {fl : Nat} {sl : List (Option D)} (h : wS (sSeq a b ⟨fl, sl⟩ C) P) : wS (a ⟨fl, sl⟩ C) (thn b fl P) := by
  have h := h.h
  refine ⟨?_⟩
  unfold sSeq at h
  cases e : a ⟨fl, sl⟩ C with
  | nx sl C1 => rw [e] at h; exact ⟨h⟩
  | rt d C1 => rw [e] at h; exact h
  | bk d C1 => rw [e] at h; exact h
  | ct d C1 => rw [e] at h; exact h
  | xc x d C1 => rw [e] at h; exact h
  | stuck => rw [e] at h; exact h
theorem w_forI {mi : MI} {g : MG} {body : MS} {fl : Nat} {sl : List (Option D)} (h : wR (mi ⟨fl, sl⟩ C) (fun it C1 => wS (loopN it g body fl it.n 0 sl C1) P) (fun e C1 => P (.xc e sl C1))) : wS (sFor mi g body ⟨fl, sl⟩ C) P := w_bndS h
theorem w_seqI {m : ME} {Q : ItD → Store → Prop} (h : wR (m F C) (fun d C1 => ∃ it, itS d C1 = some it ∧ Q it C1) E) : wR (mSeq m F C) Q E :=
  w_bnd (w_mono h (fun d C1 g => by obtain ⟨it, e, q⟩ := g; simp only [e]; exact w_ok q) fun _ _ z => z)
theorem w_enum {m : ME} {Q : ItD → Store → Prop} (h : wR (m F C) (fun d C1 => ∃ it, itS d C1 = some it ∧ Q (prI it) C1) E) : wR (mEnum m F C) Q E :=
  w_bnd (w_mono h (fun d C1 g => by obtain ⟨it, e, q⟩ := g; simp only [e]; exact w_ok q) fun _ _ z => z)
theorem w_itL {xs : List D} {q : ItD → Prop} (h : q (itC xs)) : ∃ it, itS (.lst xs) C = some it ∧ q it := ⟨_, rfl, h⟩
theorem w_itT {xs : List D} {q : ItD → Prop} (h : q (itC xs)) : ∃ it, itS (.tup xs) C = some it ∧ q it := ⟨_, rfl, h⟩
theorem w_itK {xs : List D} {q : ItD → Prop} (h : q (itC xs)) : ∃ it, itS (.kt xs) C = some it ∧ q it := ⟨_, rfl, h⟩
theorem w_itC {i : Nat} {xs : List D} {q : ItD → Prop} (e : C[i]? = some (some (.lst xs))) (h : q (itV i xs.length)) : ∃ it, itS (.cell i) C = some it ∧ q it := ⟨_, by simp [itS, e], h⟩
theorem w_rng1 {m : ME} {Q : ItD → Store → Prop} (h : wR (m F C) (fun d C1 => ∃ j, d = .int j ∧ inR j = true ∧ Q (itR 0 j.toNat) C1) E) : wR (mRng1 m F C) Q E :=
  w_bnd (w_mono h (fun d C1 g => by obtain ⟨j, rfl, e, q⟩ := g; simp only [e, if_true]; exact w_ok q) fun _ _ z => z)
theorem w_rng2 {m m2 : ME} {Q : ItD → Store → Prop} (h : wR (m F C) (fun d C1 => wR (m2 F C1) (fun e C2 => ∃ i j, d = .int i ∧ e = .int j ∧ inR i = true ∧ inR j = true ∧ Q (itR i (j - i).toNat) C2) E) E) : wR (mRng2 m m2 F C) Q E :=
  w_bnd (w_mono h (fun d C1 g => w_bnd (w_mono g (fun e C2 g => by obtain ⟨i, j, rfl, rfl, e1, e2, q⟩ := g; simp only [e1, e2, Bool.and_self, if_true]; exact w_ok q) fun _ _ z => z)) fun _ _ z => z)
theorem loop_p {it : ItD} {xs : List D} (p : PureIt it xs) {g : MG} {body : MS} {fl : Nat} {sl : List (Option D)} (I : Nat → List (Option D) → Store → Prop) (i0 : I 0 sl C)
    (step : ∀ j x sl C, xs[j]? = some x → I j sl C → ∃ sl1, g x sl = some sl1 ∧ wS (body ⟨fl, sl1⟩ C) (lpP I (j + 1) P)) (fin : ∀ sl C, I xs.length sl C → P (.nx sl C)) : wS (loopN it g body fl it.n 0 sl C) P :=
  loop_w (p.on fun _ => True) I (fun _ _ _ _ => trivial) step fin it.n 0 sl C (by rw [p.n]; omega) i0
theorem on_cell {i : Nat} {xs : List D} : ItOn (fun C => C[i]? = some (some (.lst xs))) (itV i xs.length) xs := ⟨rfl, fun j C h hj => by simp [itV, h], fun C h => by simp [itV, h]⟩
def lcR (it : ItD) (g : MG) (tt : MT) (te : ME) (vs : List Nat) (F : Fr) (C1 : Store) : R D := mLc false (fun _ C => .ok it C) g tt te vs F C1
theorem w_lcI {mi : MI} {g : MG} {tt : MT} {te : ME} {vs : List Nat} {Q : D → Store → Prop} (h : wR (mi F C) (fun it C1 => wR (lcR it g tt te vs F C1) Q E) E) : wR (mLc false mi g tt te vs F C) Q E := by
  unfold lcR mLc at h
  unfold mLc
  exact w_bnd h
theorem lc_p {it : ItD} {xs : List D} {g : MG} {tt : MT} {te : ME} {vs : List Nat} {Q : D → Store → Prop} (p : PureIt it xs) (f : D → Bool) (h : D → D) (sz : xs.length ≤ 16777215)
    (st : ∀ x ∈ xs, ∃ sl1, g x (wipeD F.sl vs) = some sl1 ∧ ∀ acc, wR (tt ⟨C.length, sl1⟩ (accS C acc)) (fun b C' => b = f x ∧ C' = accS C acc) noX ∧ (f x = true → wR (te ⟨C.length, sl1⟩ (accS C acc)) (fun d C' => d = h x ∧ C' = accS C acc) noX))
    (hc : ∀ x ∈ xs, f x = true → cb C.length (h x) = true) (q : Q (.lst ((xs.filter f).map h)) C) : wR (lcR it g tt te vs F C) Q E := w_lcP rfl p f h sz st hc q
theorem lc_o {it : ItD} {xs : List D} {g : MG} {tt : MT} {te : ME} {vs : List Nat} {S : Store → Prop} {Q : D → Store → Prop} (p : ItOn S it xs) (J : Nat → List D → Store → Prop) (hS : ∀ j acc C, J j acc C → S C) (hz : ∀ j acc C, J j acc C → acc.length < 16777216)
    (i0 : J 0 [] (C ++ [some (.lst [])]))
    (step : ∀ j x acc C', xs[j]? = some x → C'[C.length]? = some (some (.lst acc)) → J j acc C' → ∃ sl1, g x (wipeD F.sl vs) = some sl1 ∧ wR (tt ⟨C.length, sl1⟩ C') (fun b C2 => wI b (wR (te ⟨C.length, sl1⟩ C2) (fun y C3 => ∃ acc', C3[C.length]? = some (some (.lst acc')) ∧ acc'.length < 16777216 ∧ J (j + 1) (acc' ++ [y]) (C3.set C.length (some (.lst (acc' ++ [y])))) ∧ C.length < C3.length) noX) (∃ acc', C2[C.length]? = some (some (.lst acc')) ∧ J (j + 1) acc' C2)) noX)
    (fin : ∀ acc C', C'[C.length]? = some (some (.lst acc)) → J xs.length acc C' → cbL C.length acc = true ∧ Q (.lst acc) (C'.take C.length)) : wR (lcR it g tt te vs F C) Q E := w_lc (mi := fun _ C => .ok it C) rfl p J hS hz i0 step fin
end
end CT
set_option maxHeartbeats 4000000
/-! Q0: a web's fields. -/
namespace CL
open PySem L2 CT
section
variable {N : Nat} {f : Int × Int → Int} {C : Store} {Q : D → Store → Prop}
theorem wo_fld0 (h : Q (.int N) C) : wO (oFld 0 0 (webD N f) C) Q := wo_fld rfl h
theorem wo_fld1 (h : Q (gridD (rowsOf N f)) C) : wO (oFld 0 1 (webD N f) C) Q := wo_fld rfl h
theorem wo_fld2 (h : Q (.tup ((tiesL N f).map triD)) C) : wO (oFld 0 2 (webD N f) C) Q := wo_fld rfl h
end
end CL
set_option maxHeartbeats 4000000
/-! E7: own operators with an int, list(range), extend, two writes, told backwards. -/
namespace CT
open PySem L2
section
variable {Q : D → Store → Prop} {E : Exc → Store → Prop} {F : Fr} {C : Store}
theorem w_mulR {c : Nat} {m : MF} {mo me : ME} (h : wR (mo F C) (fun x C1 => wR (me F C1) (fun y C2 => ∃ i, y = .int i ∧ isC c x C2 = true ∧ wR (m [x, y] C2) Q E) E) E) : wR (mMulR c m mo me F C) Q E :=
  w_bnd (w_mono h (fun x C1 g => w_bnd (w_mono g (fun y C2 g => by
    obtain ⟨i, rfl, e, q⟩ := g
    simp only [e, if_true]
    exact q) fun _ _ z => z)) fun _ _ z => z)
theorem w_mulL {c : Nat} {m : MF} {mo me : ME} (h : wR (me F C) (fun x C1 => wR (mo F C1) (fun y C2 => ∃ i, x = .int i ∧ isC c y C2 = true ∧ wR (m [y, x] C2) Q E) E) E) : wR (mMulL c m me mo F C) Q E :=
  w_bnd (w_mono h (fun x C1 g => w_bnd (w_mono g (fun y C2 g => by
    obtain ⟨i, rfl, e, q⟩ := g
    simp only [e, if_true]
    exact q) fun _ _ z => z)) fun _ _ z => z)
theorem w_revLF {m : ME} (h : wR (m F C) (fun d C1 => ∃ xs, vL d C1 = some xs ∧ Q (.lst xs.reverse) C1) E) : wR (mRevL false m F C) Q E :=
  w_bnd (w_mono h (fun x C1 g => by
    obtain ⟨xs, e, q⟩ := g
    simp only [e]
    exact w_ok q) fun _ _ z => z)
end
/-! ### a comprehension whose list is an own one -/
section
variable {C : Store} {Q : D → Store → Prop} {X : Exc → Store → Prop} {F : Fr}
theorem w_lcO {mi : MI} {g : MG} {tt : MT} {te : ME} {vs : List Nat} (h : wR (mi F C) (fun it C1 => wR (mLc true (fun _ C => .ok it C) g tt te vs F C1) Q X) X) : wR (mLc true mi g tt te vs F C) Q X := by
  unfold mLc at h
  unfold mLc
  exact w_bnd h
end
/-! ### a def that hands back an own list -/
end CT
set_option maxHeartbeats 4000000
namespace CL
open PySem L2 CT
local macro_rules | `(tactic| walk_at "w") => `(tactic| first | ((with_reducible apply gR); first | with_reducible refine w_var rfl ?_ | with_reducible apply w_cons | with_reducible apply w_c | with_reducible apply w_nil | with_reducible apply w_op | with_reducible apply w_ap | with_reducible apply w_call | with_reducible apply w_tst | with_reducible apply w_un | with_reducible apply w_tand | with_reducible apply w_tor | with_reducible apply w_tnot | with_reducible apply w_yes | with_reducible apply w_and | with_reducible apply w_or | with_reducible apply w_not | with_reducible apply w_if | with_reducible apply w_chain | with_reducible apply w_isi | with_reducible apply w_isi2 | with_reducible apply w_prop | with_reducible apply w_meth | with_reducible apply w_dget | with_reducible apply w_dnewF | with_reducible apply w_dnewT | with_reducible apply w_part | with_reducible apply w_noPart | with_reducible apply w_slLF | with_reducible apply w_slA | with_reducible apply w_ok | with_reducible apply w_ofO | with_reducible apply w_lcI | with_reducible apply w_seqI | with_reducible apply w_rng1 | with_reducible apply w_rng2 | with_reducible apply w_enum) | ((with_reducible apply gO); first | with_reducible apply wo_add | with_reducible apply wo_sub | with_reducible apply wo_lt | with_reducible apply wo_gt | with_reducible apply wo_eq | with_reducible apply wo_ne | with_reducible apply wo_le | with_reducible apply wo_ge | with_reducible apply wo_neg | with_reducible apply wo_eqS | with_reducible apply wo_neS | with_reducible apply wo_min | with_reducible apply wo_max | with_reducible apply wo_int | with_reducible apply wo_abs | with_reducible apply wo_tupL | with_reducible apply wo_tupT | with_reducible refine wo_tup (by with_unfolding_all rfl) ?_ | with_reducible refine wo_lstF (by with_unfolding_all rfl) ?_ | with_reducible refine wo_lstT (by with_unfolding_all rfl) ?_ | with_reducible apply wo_fld0 | with_reducible apply wo_fld1 | with_reducible apply wo_fld2 | with_reducible apply wo_fldW0 | with_reducible apply wo_fldW1 | with_reducible apply wo_fldW2) | ((with_reducible apply gS); first | with_reducible apply w_seq | with_reducible apply w_asg | with_reducible apply w_sif | with_reducible apply w_next | with_reducible apply w_ret | with_reducible apply w_par | with_reducible apply w_drop | with_reducible apply w_asgT | with_reducible apply w_retN | with_reducible apply w_brk | with_reducible apply w_cnt | with_reducible apply w_raise | with_reducible apply w_forI) | ((with_reducible apply gI); first | with_reducible apply wI_t | with_reducible apply wI_f | with_reducible apply wI_not) | with_reducible apply w_bl | with_reducible apply thn_nx | with_reducible apply w_int | with_reducible apply w_obj | with_reducible apply thn_rt | with_reducible apply lp_nx | with_reducible apply fnl_int | with_reducible apply fnl_bl | with_reducible apply fnl_non | with_reducible apply fnl_str | with_reducible apply fnl_nx | with_reducible apply thn_bk | with_reducible apply thn_ct | with_reducible apply thn_xc | with_reducible apply lp_rt | with_reducible apply lp_bk | with_reducible apply lp_xc | with_reducible apply w_itL | with_reducible apply w_itT | with_reducible apply w_itK)
local macro_rules | `(tactic| walk_at "p") => `(tactic| repeat walk_at "w")
/-! RA1p: functions of webs; what +, -, * do to them; plain. -/
structure FOk (N : Nat) (f : Int × Int → Int) : Prop where
  n : N ≤ 60
  b : ∀ p, 0 ≤ f p ∧ f p ≤ 1000000000
  z : ∀ p, p ∉ pairsL N → f p = 0
section
variable {N : Nat} {d : Dc} {C : Store} {L : List T3} {u v n : Int} {f g : Int × Int → Int} {k : Int × Int}
theorem mem_pairsI {p : Int × Int} : p ∈ pairsL N ↔ 0 ≤ p.1 ∧ p.1 < p.2 ∧ p.2 < N := by
  rw [mem_pairs]
  constructor
  · rintro ⟨u, v, h1, h2, rfl⟩
    simp only
    omega
  · intro h
    exact ⟨p.1.toNat, p.2.toNat, by omega, by omega, Prod.ext (by simp only; omega) (by simp only; omega)⟩
theorem dg0_out (h : DOk N d) {k : Int × Int} (hk : k ∉ pairsL N) : dg0 d k = 0 := by
  unfold dg0
  cases e : dg d k with
  | none => rfl
  | some n =>
    exfalso
    have := h.k _ (dg_mem e)
    simp only at this
    exact hk (mem_pairsI.mpr ⟨this.1, this.2.1, this.2.2.1⟩)
theorem DOk.fok (h : DOk N d) : FOk N (dg0 d) := ⟨h.n, h.f, fun _ => dg0_out h⟩
theorem tot_tiesF (h : FOk N f) (k : Int × Int) : tot (tiesL N f) k = f k := by
  have e := tot_ties (N := N) (f := f) (a := k.1) (b := k.2) (fun p => (h.b p).1) (l := pairsL N) (fun p hp => by
    have := mem_pairsI.mp hp
    omega) (pairs_nodup N)
  have e2 : ((k.1, k.2) : Int × Int) = k := rfl
  rw [e2] at e
  unfold tiesL
  rw [e]
  split
  · rfl
  · rename_i hk
    rw [h.z k hk]
theorem tie_valid (h : FOk N f) {t : T3} (ht : t ∈ tiesL N f) : ValidT N t := by
  obtain ⟨a, b, h1, h2, h3, rfl⟩ := mem_ties.mp ht
  have := h.b ((a : Int), (b : Int))
  exact ⟨by simp only; omega, by simp only; omega, by simp only; omega, by simp only; omega, by simp only; omega, by simp only; omega, by simp only; omega⟩
theorem pr_tie {t : T3} (ht : t ∈ tiesL N f) : pr t = (t.1, t.2.1) ∧ t.2.2 = f (t.1, t.2.1) ∧ 0 ≤ t.1 ∧ t.1 < t.2.1 ∧ t.2.1 < N := by
  obtain ⟨a, b, h1, h2, h3, rfl⟩ := mem_ties.mp ht
  refine ⟨?_, rfl, by simp only; omega, by simp only; omega, by simp only; omega⟩
  unfold pr
  simp only
  rw [show min (a : Int) (b : Int) = a by omega, show max (a : Int) (b : Int) = b by omega]
theorem sums_ok (hN : N ≤ 60) (h : ItOk N L) (hl : L.length ≤ 800) : DOk N (sums L) := by
  refine ⟨hN, sums_keys L, fun p hp => ?_, ?_⟩
  · have e := dg0_key (sums_keys L) hp
    have e2 : tot L p.1 = p.2 := by
      rw [← dg0_sums]
      unfold dg0
      rw [e]
      rfl
    have h1 := h.s p.1
    have h0 : 0 ≤ tot L p.1 := tot_nonneg fun t ht => (h.v t ht).2.2.2.2.2.1
    have hk : 0 ≤ p.1.1 ∧ p.1.1 < p.1.2 ∧ p.1.2 < N := fold_mem (P := fun p => 0 ≤ p.1.1 ∧ p.1.1 < p.1.2 ∧ p.1.2 < N) L [] (by simp) (fun t ht m => by
      obtain ⟨a, b, c, e, f, _⟩ := h.v t ht
      simp only [pr]
      omega) p hp
    exact ⟨hk.1, hk.2.1, hk.2.2, by omega, by omega⟩
  · have := sums_len L []
    simp only [List.length_nil] at this
    have q : (sums L).length ≤ 0 + L.length := this
    omega
/-! ### + - * -/
theorem fL_add (hf : FOk N f) (hg : FOk N g) : fL (tiesL N f ++ tiesL N g) = fun k => f k + g k := by
  funext k
  show dg0 (sums _) k = _
  rw [dg0_sums, tot_app, tot_tiesF hf, tot_tiesF hg]
theorem fits_add (hf : FOk N f) (hg : FOk N g) (b : ∀ p, f p + g p ≤ 1000000000) : Fits N (tiesL N f ++ tiesL N g) := by
  refine ⟨hf.n, fun t ht => ?_, ?_, fun u v _ _ => ?_⟩
  · rcases List.mem_append.mp ht with ht | ht
    · exact tie_valid hf ht
    · exact tie_valid hg ht
  · have h1 := ties_len (f := f) hf.n
    have h2 := ties_len (f := g) hf.n
    rw [List.length_append]
    omega
  · rw [fL_add hf hg]
    exact b _
theorem FOk.sub (hf : FOk N f) (hg : FOk N g) (b : ∀ p, g p ≤ f p) : FOk N fun k => f k - g k :=
  ⟨hf.n, fun p => by
    show 0 ≤ f p - g p ∧ f p - g p ≤ 1000000000
    have := hf.b p
    have := hg.b p
    have := b p
    omega, fun p hp => by
    show f p - g p = 0
    rw [hf.z p hp, hg.z p hp]
    rfl⟩
def subL (N : Nat) (f g : Int × Int → Int) : List T3 := (tiesL N f).map fun t => (t.1, t.2.1, t.2.2 - g (t.1, t.2.1))
/-- the ties of a web with other numbers -/
theorem tot_re {h : Int × Int → Int} (hf : FOk N f) (k : Int × Int) : tot ((tiesL N f).map fun t => (t.1, t.2.1, h (t.1, t.2.1))) k = if k ∈ pairsL N ∧ 0 < f k then h k else 0 := by
  have e : ((tiesL N f).map fun t => (t.1, t.2.1, h (t.1, t.2.1))) = ((pairsL N).filter fun p => decide (0 < f p)).map fun p => (p.1, p.2, h p) := by
    unfold tiesL
    rw [List.map_map]
    rfl
  rw [e, tot_map (fun p hp => (mem_pairsI.mp (List.mem_filter.mp hp).1).2.1) ((pairs_nodup N).filter _)]
  simp only [List.mem_filter, decide_eq_true_eq]
theorem subL_is : subL N f g = (tiesL N f).map fun t => (t.1, t.2.1, (fun k => f k - g k) (t.1, t.2.1)) := by
  unfold subL
  refine List.map_congr_left fun t ht => ?_
  rw [(pr_tie ht).2.1]
theorem fL_sub (hf : FOk N f) (hg : FOk N g) (b : ∀ p, g p ≤ f p) : fL (subL N f g) = fun k => f k - g k := by
  funext k
  show dg0 (sums _) k = _
  rw [dg0_sums, subL_is]
  refine Eq.trans (tot_re (h := fun k => f k - g k) hf k) ?_
  split
  · rfl
  · rename_i hk
    show (0 : Int) = f k - g k
    have h1 := hf.b k
    have h2 := hg.b k
    have h3 := b k
    by_cases hp : k ∈ pairsL N
    · have : ¬ 0 < f k := fun z => hk ⟨hp, z⟩
      omega
    · rw [hf.z k hp, hg.z k hp]
      rfl
theorem re_valid {h : Int × Int → Int} (hh : FOk N h) {t : T3} (ht : t ∈ (tiesL N f).map fun t => (t.1, t.2.1, h (t.1, t.2.1))) : ValidT N t := by
  obtain ⟨s, hs, rfl⟩ := List.mem_map.mp ht
  have a := pr_tie hs
  have b := hh.b (s.1, s.2.1)
  exact ⟨by simp only; omega, by simp only; omega, by simp only; omega, by simp only; omega, by simp only; omega, b.1, b.2⟩
theorem fits_sub (hf : FOk N f) (hg : FOk N g) (b : ∀ p, g p ≤ f p) : Fits N (subL N f g) := by
  have hs := hf.sub hg b
  refine ⟨hf.n, fun t ht => ?_, ?_, fun u v _ _ => ?_⟩
  · rw [subL_is] at ht
    exact re_valid hs ht
  · have h1 := ties_len (f := f) hf.n
    unfold subL
    rw [List.length_map]
    omega
  · rw [fL_sub hf hg b]
    exact (hs.b _).2
theorem FOk.mul (hf : FOk N f) (n0 : 0 ≤ n) (b : ∀ p, f p * n ≤ 1000000000) : FOk N fun k => f k * n :=
  ⟨hf.n, fun p => ⟨Int.mul_nonneg (hf.b p).1 n0, b p⟩, fun p hp => by
    show f p * n = 0
    rw [hf.z p hp, Int.zero_mul]⟩
def mulL (N : Nat) (f : Int × Int → Int) (n : Int) : List T3 := (tiesL N f).map fun t => (t.1, t.2.1, t.2.2 * n)
theorem mulL_is : mulL N f n = (tiesL N f).map fun t => (t.1, t.2.1, (fun k => f k * n) (t.1, t.2.1)) := by
  unfold mulL
  refine List.map_congr_left fun t ht => ?_
  rw [(pr_tie ht).2.1]
theorem fL_mul (hf : FOk N f) : fL (mulL N f n) = fun k => f k * n := by
  funext k
  show dg0 (sums _) k = _
  rw [dg0_sums, mulL_is]
  refine Eq.trans (tot_re (h := fun k => f k * n) hf k) ?_
  split
  · rfl
  · rename_i hk
    show (0 : Int) = f k * n
    have h1 := hf.b k
    have : f k = 0 := by
      by_cases hp : k ∈ pairsL N
      · have : ¬ 0 < f k := fun z => hk ⟨hp, z⟩
        omega
      · exact hf.z k hp
    rw [this, Int.zero_mul]
theorem fits_mul (hf : FOk N f) (n0 : 0 ≤ n) (b : ∀ p, f p * n ≤ 1000000000) : Fits N (mulL N f n) := by
  have hs := hf.mul n0 b
  refine ⟨hf.n, fun t ht => ?_, ?_, fun u v _ _ => ?_⟩
  · rw [mulL_is] at ht
    exact re_valid hs ht
  · have h1 := ties_len (f := f) hf.n
    unfold mulL
    rw [List.length_map]
    omega
  · rw [fL_mul hf]
    exact b _
end
end CL
set_option maxHeartbeats 4000000
namespace CL
open PySem L2 CT
local macro_rules | `(tactic| walk_at "w") => `(tactic| first | ((with_reducible apply gR); first | with_reducible refine w_var rfl ?_ | with_reducible apply w_cons | with_reducible apply w_c | with_reducible apply w_nil | with_reducible apply w_op | with_reducible apply w_ap | with_reducible apply w_call | with_reducible apply w_tst | with_reducible apply w_un | with_reducible apply w_tand | with_reducible apply w_tor | with_reducible apply w_tnot | with_reducible apply w_yes | with_reducible apply w_and | with_reducible apply w_or | with_reducible apply w_not | with_reducible apply w_if | with_reducible apply w_chain | with_reducible apply w_isi | with_reducible apply w_isi2 | with_reducible apply w_prop | with_reducible apply w_meth | with_reducible apply w_dget | with_reducible apply w_dnewF | with_reducible apply w_dnewT | with_reducible apply w_part | with_reducible apply w_noPart | with_reducible apply w_slLF | with_reducible apply w_slA | with_reducible apply w_ok | with_reducible apply w_ofO | with_reducible apply w_lcI | with_reducible apply w_seqI | with_reducible apply w_rng1 | with_reducible apply w_rng2 | with_reducible apply w_enum) | ((with_reducible apply gO); first | with_reducible apply wo_add | with_reducible apply wo_sub | with_reducible apply wo_lt | with_reducible apply wo_gt | with_reducible apply wo_eq | with_reducible apply wo_ne | with_reducible apply wo_le | with_reducible apply wo_ge | with_reducible apply wo_neg | with_reducible apply wo_eqS | with_reducible apply wo_neS | with_reducible apply wo_min | with_reducible apply wo_max | with_reducible apply wo_int | with_reducible apply wo_abs | with_reducible apply wo_tupL | with_reducible apply wo_tupT | with_reducible refine wo_tup (by with_unfolding_all rfl) ?_ | with_reducible refine wo_lstF (by with_unfolding_all rfl) ?_ | with_reducible refine wo_lstT (by with_unfolding_all rfl) ?_ | with_reducible apply wo_fld0 | with_reducible apply wo_fld1 | with_reducible apply wo_fld2 | with_reducible apply wo_fldW0 | with_reducible apply wo_fldW1 | with_reducible apply wo_fldW2) | ((with_reducible apply gS); first | with_reducible apply w_seq | with_reducible apply w_asg | with_reducible apply w_sif | with_reducible apply w_next | with_reducible apply w_ret | with_reducible apply w_par | with_reducible apply w_drop | with_reducible apply w_asgT | with_reducible apply w_retN | with_reducible apply w_brk | with_reducible apply w_cnt | with_reducible apply w_raise | with_reducible apply w_forI) | ((with_reducible apply gI); first | with_reducible apply wI_t | with_reducible apply wI_f | with_reducible apply wI_not) | with_reducible apply w_bl | with_reducible apply thn_nx | with_reducible apply w_int | with_reducible apply w_obj | with_reducible apply thn_rt | with_reducible apply lp_nx | with_reducible apply fnl_int | with_reducible apply fnl_bl | with_reducible apply fnl_non | with_reducible apply fnl_str | with_reducible apply fnl_nx | with_reducible apply thn_bk | with_reducible apply thn_ct | with_reducible apply thn_xc | with_reducible apply lp_rt | with_reducible apply lp_bk | with_reducible apply lp_xc | with_reducible apply w_itL | with_reducible apply w_itT | with_reducible apply w_itK)
local macro_rules | `(tactic| walk_at "p") => `(tactic| repeat walk_at "w")
/-! RA2: steps for instances, + - * walked. -/
section
variable {C : Store} {Q : D → Store → Prop} {X : Exc → Store → Prop} {F : Fr} {P : RS → Prop}
theorem w_binO {c : Nat} {m : MF} {mo me : ME} (h : wR (mo F C) (fun x C1 => wR (me F C1) (fun y C2 => (isC c x C2 && isC c y C2) = true ∧ wR (m [x, y] C2) Q X) X) X) : wR (mBinO c m mo me F C) Q X := by
  unfold mBinO
  refine w_bnd (w_mono h (fun x C1 g => w_bnd (w_mono g (fun y C2 g => ?_) fun _ _ z => z)) fun _ _ z => z)
  rw [if_pos g.1]
  exact g.2
theorem cb_web (n N : Nat) (f : Int × Int → Int) : cb n (webD N f) = true := by
  show (true && (cb n (gridD _) && (cbL n ((tiesL N f).map triD) && true))) = true
  rw [cb_grid, cb_ties]
  rfl
variable {N M : Nat} {f g : Int × Int → Int} {n : Int}
theorem cat_tri {L M : List T3} (h : L.length + M.length ≤ 16777216) : oCatT (.tup (L.map triD)) (.tup (M.map triD)) C = some (.tup ((L ++ M).map triD), C) := by
  have hz : szN ((L.map triD).length + (M.map triD).length) = true := by
    rw [List.length_map, List.length_map]
    simp [szN]
    omega
  simp only [oCatT, vT, hz, if_true]
  cases L with
  | nil => rfl
  | cons a L =>
    cases M with
    | nil => simp
    | cons b M => simp
theorem add_w (hf : FOk N f) (hg : FOk N g) (b : ∀ p, f p + g p ≤ 1000000000) (q : Q (webD N fun k => f k + g k) C) : wR (m_Web__add [webD N f, webD N g] C) Q X := by
  have l1 := ties_len (f := f) hf.n
  have l2 := ties_len (f := g) hf.n
  rw [e_Web__add]
  apply w_fin
  unfold b_Web__add b_Web__add_0
  walk_at "p"
  refine ⟨true, rfl, ?_⟩
  walk_at "p"
  unfold b_Web__add_1
  walk_at "p"
  refine wI_dt rfl ?_
  walk_at "p"
  unfold b_Web__add_2
  walk_at "p"
  refine w_mkT ?_
  walk_at "p"
  refine wo_of (cat_tri (by omega)) ?_
  walk_at "p"
  refine w_of (make_ok (N := N) (L := tiesL N f ++ tiesL N g) (d := .tup ((tiesL N f ++ tiesL N g).map triD)) (ds := [.int N, .tup ((tiesL N f ++ tiesL N g).map triD)]) (fits_add hf hg b) (.inr (.inl rfl)) rfl rfl) ?_
  rw [fL_add hf hg]
  refine fnl_p (cb_web _ _ _) ?_
  rw [List.take_length]
  exact q
/-- the number of a tie in a web's table -/
theorem at_row {t : T3} (ht : 0 ≤ t.1 ∧ t.1 < t.2.1 ∧ t.2.1 < N) (C : Store) : oIx (gridD (rowsOf N g)) (.int t.1) C = some (rowD N g t.1.toNat, C) := by
  have e := gix (N := N) (f := g) (u := t.1.toNat) (by omega) C
  rwa [show ((t.1.toNat : Nat) : Int) = t.1 by omega] at e
theorem at_col {t : T3} (ht : 0 ≤ t.1 ∧ t.1 < t.2.1 ∧ t.2.1 < N) (C : Store) : oIx (rowD N g t.1.toNat) (.int t.2.1) C = some (.int (g (t.1, t.2.1)), C) := by
  have e := rix (N := N) (f := g) (u := t.1.toNat) (v := t.2.1.toNat) (by omega) C
  rwa [show ((t.1.toNat : Nat) : Int) = t.1 by omega, show ((t.2.1.toNat : Nat) : Int) = t.2.1 by omega, show min t.1 t.2.1 = t.1 by omega, show max t.1 t.2.1 = t.2.1 by omega] at e
theorem sub_w (hf : FOk N f) (hg : FOk N g) (b : ∀ p, g p ≤ f p) (q : Q (webD N fun k => f k - g k) C) : wR (m_Web__sub [webD N f, webD N g] C) Q X := by
  have l1 := ties_len (f := f) hf.n
  have l2 := ties_len (f := g) hf.n
  rw [e_Web__sub]
  apply w_fin
  unfold b_Web__sub b_Web__sub_0
  walk_at "p"
  refine ⟨true, rfl, ?_⟩
  walk_at "p"
  unfold b_Web__sub_1
  walk_at "p"
  refine wI_dt rfl ?_
  walk_at "p"
  unfold b_Web__sub_2
  walk_at "p"
  refine loop_p (pure_C ((tiesL N g).map triD)) (fun j sl S => S = C ∧ ∃ t2 t3 t4, sl = [some (webD N f), some (webD N g), t2, t3, t4]) ⟨rfl, _, _, _, rfl⟩ ?_ ?_
  · rintro j y sl S hy ⟨rfl, t2, t3, t4, rfl⟩
    obtain ⟨t, ht, rfl⟩ := List.mem_map.mp (List.mem_of_getElem? hy)
    have pt := pr_tie ht
    refine ⟨_, rfl, ?_⟩
    unfold b_Web__sub_2b_0
    walk_at "p"
    refine wo_of (at_row pt.2.2 _) ?_
    walk_at "p"
    refine wo_of (at_col pt.2.2 _) ?_
    walk_at "p"
    refine wI_df (by have := b (t.1, t.2.1); rw [← pt.2.1] at this; omega) ?_
    walk_at "p"
    exact ⟨rfl, _, _, _, rfl⟩
  · rintro sl S ⟨rfl, t2, t3, t4, rfl⟩
    walk_at "p"
    unfold b_Web__sub_3
    walk_at "p"
    refine w_mkT ?_
    walk_at "p"
    refine lc_p (pure_C ((tiesL N f).map triD)) (fun _ => true) (fun y => match y with | .tup [.int a, .int b, .int n] => triD (a, b, n - g (a, b)) | _ => .non) (by rw [List.length_map]; omega) (fun y hy => ?_) (fun y hy _ => ?_) ?_
    · obtain ⟨t, ht, rfl⟩ := List.mem_map.mp hy
      have pt := pr_tie ht
      refine ⟨_, rfl, fun acc => ⟨w_yes ⟨rfl, rfl⟩, fun _ => ?_⟩⟩
      walk_at "p"
      refine wo_of (at_row pt.2.2 _) ?_
      walk_at "p"
      refine wo_of (at_col pt.2.2 _) ?_
      walk_at "p"
      exact ⟨rfl, rfl⟩
    · obtain ⟨t, ht, rfl⟩ := List.mem_map.mp hy
      rfl
    have e : (((tiesL N f).map triD).filter fun _ => true).map (fun y => match y with | .tup [.int a, .int b, .int n] => triD (a, b, n - g (a, b)) | _ => .non) = (subL N f g).map triD := by
      rw [filter_yes]
      unfold subL
      rw [List.map_map, List.map_map]
      rfl
    rw [e]
    walk_at "p"
    refine w_of (make_ok (N := N) (L := subL N f g) (d := .lst ((subL N f g).map triD)) (ds := [.int N, .lst ((subL N f g).map triD)]) (fits_sub hf hg b) (.inl rfl) rfl rfl) ?_
    rw [fL_sub hf hg b]
    refine fnl_p (cb_web _ _ _) ?_
    rw [List.take_length]
    exact q
end
end CL
set_option maxHeartbeats 4000000
namespace CL
open PySem L2 CT
local macro_rules | `(tactic| walk_at "w") => `(tactic| first | ((with_reducible apply gR); first | with_reducible refine w_var rfl ?_ | with_reducible apply w_cons | with_reducible apply w_c | with_reducible apply w_nil | with_reducible apply w_op | with_reducible apply w_ap | with_reducible apply w_call | with_reducible apply w_tst | with_reducible apply w_un | with_reducible apply w_tand | with_reducible apply w_tor | with_reducible apply w_tnot | with_reducible apply w_yes | with_reducible apply w_and | with_reducible apply w_or | with_reducible apply w_not | with_reducible apply w_if | with_reducible apply w_chain | with_reducible apply w_isi | with_reducible apply w_isi2 | with_reducible apply w_prop | with_reducible apply w_meth | with_reducible apply w_dget | with_reducible apply w_dnewF | with_reducible apply w_dnewT | with_reducible apply w_part | with_reducible apply w_noPart | with_reducible apply w_slLF | with_reducible apply w_slA | with_reducible apply w_ok | with_reducible apply w_ofO | with_reducible apply w_lcI | with_reducible apply w_seqI | with_reducible apply w_rng1 | with_reducible apply w_rng2 | with_reducible apply w_enum) | ((with_reducible apply gO); first | with_reducible apply wo_add | with_reducible apply wo_sub | with_reducible apply wo_lt | with_reducible apply wo_gt | with_reducible apply wo_eq | with_reducible apply wo_ne | with_reducible apply wo_le | with_reducible apply wo_ge | with_reducible apply wo_neg | with_reducible apply wo_eqS | with_reducible apply wo_neS | with_reducible apply wo_min | with_reducible apply wo_max | with_reducible apply wo_int | with_reducible apply wo_abs | with_reducible apply wo_tupL | with_reducible apply wo_tupT | with_reducible refine wo_tup (by with_unfolding_all rfl) ?_ | with_reducible refine wo_lstF (by with_unfolding_all rfl) ?_ | with_reducible refine wo_lstT (by with_unfolding_all rfl) ?_ | with_reducible apply wo_fld0 | with_reducible apply wo_fld1 | with_reducible apply wo_fld2 | with_reducible apply wo_fldW0 | with_reducible apply wo_fldW1 | with_reducible apply wo_fldW2) | ((with_reducible apply gS); first | with_reducible apply w_seq | with_reducible apply w_asg | with_reducible apply w_sif | with_reducible apply w_next | with_reducible apply w_ret | with_reducible apply w_par | with_reducible apply w_drop | with_reducible apply w_asgT | with_reducible apply w_retN | with_reducible apply w_brk | with_reducible apply w_cnt | with_reducible apply w_raise | with_reducible apply w_forI) | ((with_reducible apply gI); first | with_reducible apply wI_t | with_reducible apply wI_f | with_reducible apply wI_not) | with_reducible apply w_bl | with_reducible apply thn_nx | with_reducible apply w_int | with_reducible apply w_obj | with_reducible apply thn_rt | with_reducible apply lp_nx | with_reducible apply fnl_int | with_reducible apply fnl_bl | with_reducible apply fnl_non | with_reducible apply fnl_str | with_reducible apply fnl_nx | with_reducible apply thn_bk | with_reducible apply thn_ct | with_reducible apply thn_xc | with_reducible apply lp_rt | with_reducible apply lp_bk | with_reducible apply lp_xc | with_reducible apply w_itL | with_reducible apply w_itT | with_reducible apply w_itK)
local macro_rules | `(tactic| walk_at "p") => `(tactic| repeat walk_at "w")
/-! SETB: own lists of earlier frames written. -/
end CL
set_option maxHeartbeats 4000000
namespace CL
open PySem L2 CT
local macro_rules | `(tactic| walk_at "w") => `(tactic| first | ((with_reducible apply gR); first | with_reducible refine w_var rfl ?_ | with_reducible apply w_cons | with_reducible apply w_c | with_reducible apply w_nil | with_reducible apply w_op | with_reducible apply w_ap | with_reducible apply w_call | with_reducible apply w_tst | with_reducible apply w_un | with_reducible apply w_tand | with_reducible apply w_tor | with_reducible apply w_tnot | with_reducible apply w_yes | with_reducible apply w_and | with_reducible apply w_or | with_reducible apply w_not | with_reducible apply w_if | with_reducible apply w_chain | with_reducible apply w_isi | with_reducible apply w_isi2 | with_reducible apply w_prop | with_reducible apply w_meth | with_reducible apply w_dget | with_reducible apply w_dnewF | with_reducible apply w_dnewT | with_reducible apply w_part | with_reducible apply w_noPart | with_reducible apply w_slLF | with_reducible apply w_slA | with_reducible apply w_ok | with_reducible apply w_ofO | with_reducible apply w_lcI | with_reducible apply w_seqI | with_reducible apply w_rng1 | with_reducible apply w_rng2 | with_reducible apply w_enum) | ((with_reducible apply gO); first | with_reducible apply wo_add | with_reducible apply wo_sub | with_reducible apply wo_lt | with_reducible apply wo_gt | with_reducible apply wo_eq | with_reducible apply wo_ne | with_reducible apply wo_le | with_reducible apply wo_ge | with_reducible apply wo_neg | with_reducible apply wo_eqS | with_reducible apply wo_neS | with_reducible apply wo_min | with_reducible apply wo_max | with_reducible apply wo_int | with_reducible apply wo_abs | with_reducible apply wo_tupL | with_reducible apply wo_tupT | with_reducible refine wo_tup (by with_unfolding_all rfl) ?_ | with_reducible refine wo_lstF (by with_unfolding_all rfl) ?_ | with_reducible refine wo_lstT (by with_unfolding_all rfl) ?_ | with_reducible apply wo_fld0 | with_reducible apply wo_fld1 | with_reducible apply wo_fld2 | with_reducible apply wo_fldW0 | with_reducible apply wo_fldW1 | with_reducible apply wo_fldW2) | ((with_reducible apply gS); first | with_reducible apply w_seq | with_reducible apply w_asg | with_reducible apply w_sif | with_reducible apply w_next | with_reducible apply w_ret | with_reducible apply w_par | with_reducible apply w_drop | with_reducible apply w_asgT | with_reducible apply w_retN | with_reducible apply w_brk | with_reducible apply w_cnt | with_reducible apply w_raise | with_reducible apply w_forI) | ((with_reducible apply gI); first | with_reducible apply wI_t | with_reducible apply wI_f | with_reducible apply wI_not) | with_reducible apply w_bl | with_reducible apply thn_nx | with_reducible apply w_int | with_reducible apply w_obj | with_reducible apply thn_rt | with_reducible apply lp_nx | with_reducible apply fnl_int | with_reducible apply fnl_bl | with_reducible apply fnl_non | with_reducible apply fnl_str | with_reducible apply fnl_nx | with_reducible apply thn_bk | with_reducible apply thn_ct | with_reducible apply thn_xc | with_reducible apply lp_rt | with_reducible apply lp_bk | with_reducible apply lp_xc | with_reducible apply w_itL | with_reducible apply w_itT | with_reducible apply w_itK)
local macro_rules | `(tactic| walk_at "p") => `(tactic| repeat walk_at "w")
/-! RA4g: dicts of sums added; nested results. -/
structure DB (N : Nat) (d : Dc) (B : Int) (l : Nat) : Prop where
  ok : DOk N d
  b : ∀ p, dg0 d p ≤ B
  l : d.length ≤ l
section
variable {N m l : Nat} {d S : Dc} {L : List T3} {C : Store} {B : Int} {p q : Int × Int}
/-! ### sums added -/
theorem foldD_at {f : Int × Int → Int} {ks : List (Int × Int)} : ∀ {e : Dc}, dg0 (ks.foldl (fun e p => dp e p (f p)) e) q = if q ∈ ks then f q else dg0 e q := by
  induction ks with
  | nil => intro e; simp
  | cons p ks ih =>
    intro e
    rw [List.foldl_cons, ih, dg0_dp]
    by_cases h1 : q ∈ ks
    · rw [if_pos h1, if_pos (List.mem_cons_of_mem _ h1)]
    · rw [if_neg h1]
      by_cases h2 : q = p
      · subst h2
        rw [if_pos rfl, if_pos (List.mem_cons_self ..)]
      · rw [if_neg h2, if_neg (by simp [h1, h2])]
theorem dg0_nk (h : q ∉ sk S) : dg0 S q = 0 := by
  unfold dg0
  cases e : dg S q with
  | none => rfl
  | some n => exact absurd (mem_sk.mpr (List.mem_map.mpr ⟨_, dg_mem e, rfl⟩)) h
theorem sk_len (S : Dc) : (sk S).length = S.length := by rw [(sk_perm S).length_eq, List.length_map]
theorem DB.more {B' : Int} {l' : Nat} (h : DB N d B l) (hB : B ≤ B') (hl : l ≤ l') : DB N d B' l' := ⟨h.ok, fun p => Int.le_trans (h.b p) hB, Nat.le_trans h.l hl⟩
theorem DOk.nil (hN : N ≤ 60) : DOk N [] := ⟨hN, by simp, by simp, by simp⟩
end
section
variable {C : Store} {Q : D → Store → Prop} {X : Exc → Store → Prop} {N n : Nat} {f : Int × Int → Int} {d : Dc}
def fnlN (n : Nat) (Q : D → Store → Prop) (X : Exc → Store → Prop) : RS → Prop := fun r => wR (finNS n r) Q X
theorem w_finN {r : RS} (h : wS r (fnlN n Q X)) : wR (finNS n r) Q X := h.h
theorem cbL_dc (n : Nat) (d : Dc) : cbL n (dcV d) = true := by
  unfold dcV
  have := cbL_ints n (d.map (·.2))
  rw [List.map_map] at this
  exact this
end
end CL
set_option maxHeartbeats 4000000
namespace CL
open PySem L2 CT
local macro_rules | `(tactic| walk_at "w") => `(tactic| first | ((with_reducible apply gR); first | with_reducible refine w_var rfl ?_ | with_reducible apply w_cons | with_reducible apply w_c | with_reducible apply w_nil | with_reducible apply w_op | with_reducible apply w_ap | with_reducible apply w_call | with_reducible apply w_tst | with_reducible apply w_un | with_reducible apply w_tand | with_reducible apply w_tor | with_reducible apply w_tnot | with_reducible apply w_yes | with_reducible apply w_and | with_reducible apply w_or | with_reducible apply w_not | with_reducible apply w_if | with_reducible apply w_chain | with_reducible apply w_isi | with_reducible apply w_isi2 | with_reducible apply w_prop | with_reducible apply w_meth | with_reducible apply w_dget | with_reducible apply w_dnewF | with_reducible apply w_dnewT | with_reducible apply w_part | with_reducible apply w_noPart | with_reducible apply w_slLF | with_reducible apply w_slA | with_reducible apply w_ok | with_reducible apply w_ofO | with_reducible apply w_lcI | with_reducible apply w_seqI | with_reducible apply w_rng1 | with_reducible apply w_rng2 | with_reducible apply w_enum) | ((with_reducible apply gO); first | with_reducible apply wo_add | with_reducible apply wo_sub | with_reducible apply wo_lt | with_reducible apply wo_gt | with_reducible apply wo_eq | with_reducible apply wo_ne | with_reducible apply wo_le | with_reducible apply wo_ge | with_reducible apply wo_neg | with_reducible apply wo_eqS | with_reducible apply wo_neS | with_reducible apply wo_min | with_reducible apply wo_max | with_reducible apply wo_int | with_reducible apply wo_abs | with_reducible apply wo_tupL | with_reducible apply wo_tupT | with_reducible refine wo_tup (by with_unfolding_all rfl) ?_ | with_reducible refine wo_lstF (by with_unfolding_all rfl) ?_ | with_reducible refine wo_lstT (by with_unfolding_all rfl) ?_ | with_reducible apply wo_fld0 | with_reducible apply wo_fld1 | with_reducible apply wo_fld2 | with_reducible apply wo_fldW0 | with_reducible apply wo_fldW1 | with_reducible apply wo_fldW2) | ((with_reducible apply gS); first | with_reducible apply w_seq | with_reducible apply w_asg | with_reducible apply w_sif | with_reducible apply w_next | with_reducible apply w_ret | with_reducible apply w_par | with_reducible apply w_drop | with_reducible apply w_asgT | with_reducible apply w_retN | with_reducible apply w_brk | with_reducible apply w_cnt | with_reducible apply w_raise | with_reducible apply w_forI) | ((with_reducible apply gI); first | with_reducible apply wI_t | with_reducible apply wI_f | with_reducible apply wI_not) | with_reducible apply w_bl | with_reducible apply thn_nx | with_reducible apply w_int | with_reducible apply w_obj | with_reducible apply thn_rt | with_reducible apply lp_nx | with_reducible apply fnl_int | with_reducible apply fnl_bl | with_reducible apply fnl_non | with_reducible apply fnl_str | with_reducible apply fnl_nx | with_reducible apply thn_bk | with_reducible apply thn_ct | with_reducible apply thn_xc | with_reducible apply lp_rt | with_reducible apply lp_bk | with_reducible apply lp_xc | with_reducible apply w_itL | with_reducible apply w_itT | with_reducible apply w_itK)
local macro_rules | `(tactic| walk_at "p") => `(tactic| repeat walk_at "w")
/-! RB1w: webs that raise; drafts read and written (k25). -/
theorem dB : ∀ {l : List D}, (∀ d ∈ l, ∃ b, d = .bl b) → ∃ bs, dBools l = some bs ∧ l = bs.map .bl
  | [], _ => ⟨[], rfl, rfl⟩
  | d :: l, h => by
    obtain ⟨b, rfl⟩ := h d (List.mem_cons_self ..)
    obtain ⟨bs, e, rfl⟩ := dB (l := l) fun x hx => h x (List.mem_cons_of_mem _ hx)
    exact ⟨b :: bs, by simp [dBools, e], rfl⟩
theorem anyT {C : Store} {l : List D} (h : ∀ d ∈ l, ∃ b, d = .bl b) (ht : D.bl true ∈ l) : oAny [.lst l] C = some (.bl true, C) := by
  obtain ⟨bs, e, rfl⟩ := dB h
  obtain ⟨b, hb, e2⟩ := List.mem_map.mp ht
  cases e2
  have : bs.any id = true := List.any_eq_true.mpr ⟨true, hb, rfl⟩
  simp [oAny, vL, e, this]
structure Big (N : Nat) (L : List T3) : Prop where
  n : N ≤ 60
  v : ∀ t ∈ L, ValidT N t
  l : L.length ≤ 1000000
  s : ∃ u v : Nat, u < N ∧ v < N ∧ 1000000000 < fL L (min (u : Int) (v : Int), max (u : Int) (v : Int))
section
variable {N : Nat} {L : List T3} {C : Store} {d : D}
theorem init_4x {fl i : Nat} {s3 s4 : Option D} {f : Int × Int → Int} (hN : N ≤ 60) (hf : ∃ u v : Nat, u < N ∧ v < N ∧ 1000000000 < f (min (u : Int) (v : Int), max (u : Int) (v : Int))) :
    b_Web__init_4 ⟨fl, [some (.cell i), some (.int N), some d, s3, s4, some (gridD (rowsOf N f)), none, none, none, none, none]⟩ C = .xc ⟨2, [.int 1000000000]⟩ [some (.cell i), some (.int N), some d, s3, s4, some (gridD (rowsOf N f)), none, none, none, none, none] C := by
  have e : mLc2 false (mSeq (mVar 5)) (Tgt.nm 7).M tYesM (mSeq (mVar 7)) (Tgt.nm 8).M tYesM (mOp oGt (mVar 8) (mC (.int 1000000000))) [7, 8] [8] ⟨fl, [some (.cell i), some (.int N), some d, s3, s4, some (gridD (rowsOf N f)), none, none, none, none, none]⟩ C =
      .ok (.lst (flat2 ((rowsOf N f).map fun r => .lst (r.map .int)) itemsD (fun _ _ => true) fun _ y => .bl (big y))) C := by
    refine ev_lc2 (pure_C ((rowsOf N f).map fun r => D.lst (r.map .int))) itemsD (fun _ _ => true) (fun _ y => .bl (big y)) 60 ?_ (fun x hx => ?_) ?_ (by omega) (fun x hx => ?_) (fun _ _ _ _ _ => rfl)
    · exact ev_seqI (d := gridD (rowsOf N f)) (by simp) rfl
    · obtain ⟨r, hr, rfl⟩ := List.mem_map.mp hx
      show (r.map D.int).length ≤ 60
      rw [List.length_map, (rows_len hr).1]
      exact hN
    · have : (rowsOf N f).length = N := by simp [rowsOf]
      rw [List.length_map, this]
      omega
    · obtain ⟨r, hr, rfl⟩ := List.mem_map.mp hx
      refine ⟨[some (.cell i), some (.int N), some d, s3, s4, some (gridD (rowsOf N f)), none, some (.lst (r.map .int)), none, none, none], by simp, fun acc => ⟨⟨itC (r.map .int), pure_C _, ev_seqI (d := .lst (r.map .int)) (by simp) rfl⟩, fun y hy => ?_⟩⟩
      obtain ⟨n, hn, rfl⟩ := List.mem_map.mp hy
      exact ⟨[some (.cell i), some (.int N), some d, s3, s4, some (gridD (rowsOf N f)), none, some (.lst (r.map .int)), some (.int n), none, none], by simp, fun acc => ⟨rfl, fun _ => by simp [big]⟩⟩
  have a := anyT (C := C) (l := flat2 ((rowsOf N f).map fun r => .lst (r.map .int)) itemsD (fun _ _ => true) fun _ y => .bl (big y)) (fun x hx => by
    unfold flat2 at hx
    obtain ⟨row, hrow, hx⟩ := List.mem_flatMap.mp hx
    obtain ⟨y, hy, rfl⟩ := List.mem_map.mp hx
    exact ⟨_, rfl⟩) (by
    obtain ⟨u, v, hu, hv, hb⟩ := hf
    unfold flat2
    refine List.mem_flatMap.mpr ⟨.lst (((List.range N).map fun v : Nat => f (min (u : Int) (v : Int), max (u : Int) (v : Int))).map .int), List.mem_map.mpr ⟨_, List.mem_map.mpr ⟨u, List.mem_range.mpr hu, rfl⟩, rfl⟩, ?_⟩
    refine List.mem_map.mpr ⟨.int (f (min (u : Int) (v : Int), max (u : Int) (v : Int))), List.mem_filter.mpr ⟨List.mem_map.mpr ⟨_, List.mem_map.mpr ⟨v, List.mem_range.mpr hv, rfl⟩, rfl⟩, rfl⟩, ?_⟩
    simp only [big]
    rw [decide_eq_true hb])
  have w : wS (b_Web__init_4 ⟨fl, [some (.cell i), some (.int N), some d, s3, s4, some (gridD (rowsOf N f)), none, none, none, none, none]⟩ C) (fun r => r = .xc ⟨2, [.int 1000000000]⟩ [some (.cell i), some (.int N), some d, s3, s4, some (gridD (rowsOf N f)), none, none, none, none, none] C) := by
    unfold b_Web__init_4
    walk_at "p"
    refine w_of e ?_
    walk_at "p"
    refine wo_of a ?_
    walk_at "p"
    exact ⟨rfl, rfl⟩
  exact w.h
theorem init_x (h : Big N L) (hd : SeqD d (L.map triD) C) : m_Web__init [.cell C.length, .int N, d] (C ++ [some (.ins 0 [])]) = .exc ⟨2, [.int 1000000000]⟩ (C ++ [some (.ins 0 [])]) := by
  have hd1 := hd.app [some (.ins 0 [])]
  rw [e_Web__init, b_Web__init, ev_seq, init_0 h.n rfl, seqK_nx, ev_seq, init_1 rfl hd1, seqK_nx, ev_seq]
  obtain ⟨s3, s4, e2⟩ := init_2 (C := C ++ [some (.ins 0 [])]) (fl := (C ++ [some (Cell.ins 0 [])]).length) (i := C.length) hd1.seq h.v
  rw [e2, seqK_nx, ev_seq, init_3 h.n hd1.seq h.l, seqK_nx, ev_seq, init_4x h.n h.s]
  show (if cbL (C ++ [some (Cell.ins 0 [])]).length [D.int 1000000000] = true then R.exc ⟨2, [.int 1000000000]⟩ ((C ++ [some (Cell.ins 0 [])]).take (C ++ [some (Cell.ins 0 [])]).length) else .stuck) = _
  rw [if_pos (show cbL (C ++ [some (Cell.ins 0 [])]).length [D.int 1000000000] = true from rfl), List.take_length]
theorem make_x {F : Fr} {a : MA} {dds ds : List D} (h : Big N L) (hd : SeqD d (L.map triD) C) (ha : a F C = .ok ds C) (e : ds ++ dds = [.int N, d]) : mMake false 0 3 m_Web__init dds a F C = .exc ⟨2, [.int 1000000000]⟩ C := by
  unfold mMake
  rw [ha]
  simp only [bnd_ok]
  rw [e, init_x h hd]
  show (if cbL C.length [D.int 1000000000] = true then R.exc ⟨2, [.int 1000000000]⟩ ((C ++ [some (Cell.ins 0 [])]).take C.length) else .stuck) = _
  rw [if_pos (show cbL C.length [D.int 1000000000] = true from rfl), take_app rfl]
end
section
variable {C : Store} {Q : D → Store → Prop} {X : Exc → Store → Prop} {F : Fr} {P : RS → Prop} {N M i : Nat} {f g : Int × Int → Int} {n : Int}
theorem add_ne (h : N ≠ M) (q : X ⟨4, [.int M, .int N]⟩ C) : wR (m_Web__add [webD N f, webD M g] C) Q X := by
  rw [e_Web__add]
  apply w_fin
  unfold b_Web__add b_Web__add_0
  walk_at "p"
  refine ⟨true, rfl, ?_⟩
  walk_at "p"
  unfold b_Web__add_1
  walk_at "p"
  refine wI_df (by omega) ?_
  walk_at "p"
  refine ⟨rfl, ?_⟩
  walk_at "p"
  refine fnl_xc rfl ?_
  rw [List.take_length]
  exact q
theorem add_big (hf : FOk N f) (hg : FOk N g) (b : ∃ p, 1000000000 < f p + g p) (q : X ⟨2, [.int 1000000000]⟩ C) : wR (m_Web__add [webD N f, webD N g] C) Q X := by
  have l1 := ties_len (f := f) hf.n
  have l2 := ties_len (f := g) hf.n
  have hb : Big N (tiesL N f ++ tiesL N g) := by
    refine ⟨hf.n, fun t ht => ?_, by rw [List.length_append]; omega, ?_⟩
    · rcases List.mem_append.mp ht with ht | ht
      · exact tie_valid hf ht
      · exact tie_valid hg ht
    · obtain ⟨p, hp⟩ := b
      have hm : p ∈ pairsL N := Classical.byContradiction fun z => by
        rw [hf.z p z, hg.z p z] at hp
        omega
      have hm := mem_pairsI.mp hm
      refine ⟨p.1.toNat, p.2.toNat, by omega, by omega, ?_⟩
      rw [fL_add hf hg, show ((p.1.toNat : Nat) : Int) = p.1 by omega, show ((p.2.toNat : Nat) : Int) = p.2 by omega, show min p.1 p.2 = p.1 by omega, show max p.1 p.2 = p.2 by omega]
      exact hp
  rw [e_Web__add]
  apply w_fin
  unfold b_Web__add b_Web__add_0
  walk_at "p"
  refine ⟨true, rfl, ?_⟩
  walk_at "p"
  unfold b_Web__add_1
  walk_at "p"
  refine wI_dt rfl ?_
  walk_at "p"
  unfold b_Web__add_2
  walk_at "p"
  refine w_mkT ?_
  walk_at "p"
  refine wo_of (cat_tri (by omega)) ?_
  walk_at "p"
  refine w_ofx (make_x (N := N) (L := tiesL N f ++ tiesL N g) (d := .tup ((tiesL N f ++ tiesL N g).map triD)) (ds := [.int N, .tup ((tiesL N f ++ tiesL N g).map triD)]) hb (.inr (.inl rfl)) rfl rfl) ?_
  refine fnl_xc rfl ?_
  rw [List.take_length]
  exact q
theorem sub_ne (h : N ≠ M) (q : X ⟨4, [.int M, .int N]⟩ C) : wR (m_Web__sub [webD N f, webD M g] C) Q X := by
  rw [e_Web__sub]
  apply w_fin
  unfold b_Web__sub b_Web__sub_0
  walk_at "p"
  refine ⟨true, rfl, ?_⟩
  walk_at "p"
  unfold b_Web__sub_1
  walk_at "p"
  refine wI_df (by omega) ?_
  walk_at "p"
  refine ⟨rfl, ?_⟩
  walk_at "p"
  refine fnl_xc rfl ?_
  rw [List.take_length]
  exact q
theorem find_at {α : Type} {b : α → Bool} : ∀ {l : List α} {j : Nat} {x : α}, l[j]? = some x → (∀ y ∈ l.take j, b y = false) → b x = true → l.find? b = some x
  | [], j, x, h, _, _ => by simp at h
  | y :: l, 0, x, h, _, hb => by
    obtain rfl : y = x := Option.some.inj h
    rw [List.find?_cons, hb]
  | y :: l, j + 1, x, h, hn, hb => by
    have hy : b y = false := hn y (by simp)
    rw [List.find?_cons, hy]
    exact find_at (j := j) h (fun z hz => hn z (by simp [hz])) hb
theorem take_sn {α : Type} {l : List α} {j : Nat} {x : α} (h : l[j]? = some x) : l.take (j + 1) = l.take j ++ [x] := by
  obtain ⟨hj, e⟩ := List.getElem?_eq_some_iff.mp h
  rw [← e]
  exact (List.take_append_getElem hj).symm
/-- the first pair of which the other web has more -/
def fewP (N : Nat) (f g : Int × Int → Int) : Option (Int × Int) := (pairsL N).find? fun p => decide (f p < g p)
theorem few_tie (hf : FOk N f) : (tiesL N g).find? (fun t => decide (f (t.1, t.2.1) < t.2.2)) = (fewP N f g).map fun p => (p.1, p.2, g p) := by
  unfold tiesL fewP
  rw [List.find?_map, List.find?_filter]
  congr 1
  refine congrFun (congrArg _ ?_) _
  funext p
  show decide (decide (0 < g p) = true ∧ decide (f p < g p) = true) = _
  have := hf.b p
  by_cases h : f p < g p
  · rw [decide_eq_true h, decide_eq_true (show 0 < g p by omega)]
    rfl
  · rw [decide_eq_false h]
    simp
theorem sub_few {p : Int × Int} (hf : FOk N f) (hg : FOk N g) (hp : fewP N f g = some p) (q : X ⟨3, [pD p]⟩ C) : wR (m_Web__sub [webD N f, webD N g] C) Q X := by
  have l2 := ties_len (f := g) hf.n
  have ft := few_tie (N := N) (f := f) (g := g) hf
  rw [hp] at ft
  rw [e_Web__sub]
  apply w_fin
  unfold b_Web__sub b_Web__sub_0
  walk_at "p"
  refine ⟨true, rfl, ?_⟩
  walk_at "p"
  unfold b_Web__sub_1
  walk_at "p"
  refine wI_dt rfl ?_
  walk_at "p"
  unfold b_Web__sub_2
  walk_at "p"
  refine loop_p (pure_C ((tiesL N g).map triD)) (fun j sl S => S = C ∧ (∀ t ∈ (tiesL N g).take j, decide (f (t.1, t.2.1) < t.2.2) = false) ∧ ∃ t2 t3 t4, sl = [some (webD N f), some (webD N g), t2, t3, t4]) ⟨rfl, by simp, _, _, _, rfl⟩ ?_ ?_
  · rintro j y sl S hy ⟨rfl, hb, t2, t3, t4, rfl⟩
    rw [List.getElem?_map] at hy
    obtain ⟨t, ht, rfl⟩ := Option.map_eq_some_iff.mp hy
    have pt := pr_tie (List.mem_of_getElem? ht)
    refine ⟨_, rfl, ?_⟩
    unfold b_Web__sub_2b_0
    walk_at "p"
    refine wo_of (at_row pt.2.2 _) ?_
    walk_at "p"
    refine wo_of (at_col pt.2.2 _) ?_
    walk_at "p"
    refine wI_d (fun z => ?_) fun z => ?_
    · have e := find_at ht hb (decide_eq_true z)
      rw [ft] at e
      have e := Option.some.inj e
      subst e
      walk_at "p"
      refine ⟨rfl, ?_⟩
      walk_at "p"
      refine fnl_xc rfl ?_
      rw [List.take_length]
      exact q
    · walk_at "p"
      refine ⟨rfl, fun s hs => ?_, _, _, _, rfl⟩
      rw [take_sn ht] at hs
      rcases List.mem_append.mp hs with hs | hs
      · exact hb s hs
      · rw [List.mem_singleton.mp hs]
        exact decide_eq_false z
  · rintro sl S ⟨rfl, hb, t2, t3, t4, rfl⟩
    exfalso
    rw [List.length_map, List.take_length] at hb
    have := List.find?_some ft
    rw [hb _ (List.mem_of_find?_eq_some ft)] at this
    cases this
end
end CL
set_option maxHeartbeats 4000000
namespace CL
open PySem L2 CT
local macro_rules | `(tactic| walk_at "w") => `(tactic| first | ((with_reducible apply gR); first | with_reducible refine w_var rfl ?_ | with_reducible apply w_cons | with_reducible apply w_c | with_reducible apply w_nil | with_reducible apply w_op | with_reducible apply w_ap | with_reducible apply w_call | with_reducible apply w_tst | with_reducible apply w_un | with_reducible apply w_tand | with_reducible apply w_tor | with_reducible apply w_tnot | with_reducible apply w_yes | with_reducible apply w_and | with_reducible apply w_or | with_reducible apply w_not | with_reducible apply w_if | with_reducible apply w_chain | with_reducible apply w_isi | with_reducible apply w_isi2 | with_reducible apply w_prop | with_reducible apply w_meth | with_reducible apply w_dget | with_reducible apply w_dnewF | with_reducible apply w_dnewT | with_reducible apply w_part | with_reducible apply w_noPart | with_reducible apply w_slLF | with_reducible apply w_slA | with_reducible apply w_ok | with_reducible apply w_ofO | with_reducible apply w_lcI | with_reducible apply w_seqI | with_reducible apply w_rng1 | with_reducible apply w_rng2 | with_reducible apply w_enum) | ((with_reducible apply gO); first | with_reducible apply wo_add | with_reducible apply wo_sub | with_reducible apply wo_lt | with_reducible apply wo_gt | with_reducible apply wo_eq | with_reducible apply wo_ne | with_reducible apply wo_le | with_reducible apply wo_ge | with_reducible apply wo_neg | with_reducible apply wo_eqS | with_reducible apply wo_neS | with_reducible apply wo_min | with_reducible apply wo_max | with_reducible apply wo_int | with_reducible apply wo_abs | with_reducible apply wo_tupL | with_reducible apply wo_tupT | with_reducible refine wo_tup (by with_unfolding_all rfl) ?_ | with_reducible refine wo_lstF (by with_unfolding_all rfl) ?_ | with_reducible refine wo_lstT (by with_unfolding_all rfl) ?_ | with_reducible apply wo_fld0 | with_reducible apply wo_fld1 | with_reducible apply wo_fld2 | with_reducible apply wo_fldW0 | with_reducible apply wo_fldW1 | with_reducible apply wo_fldW2) | ((with_reducible apply gS); first | with_reducible apply w_seq | with_reducible apply w_asg | with_reducible apply w_sif | with_reducible apply w_next | with_reducible apply w_ret | with_reducible apply w_par | with_reducible apply w_drop | with_reducible apply w_asgT | with_reducible apply w_retN | with_reducible apply w_brk | with_reducible apply w_cnt | with_reducible apply w_raise | with_reducible apply w_forI) | ((with_reducible apply gI); first | with_reducible apply wI_t | with_reducible apply wI_f | with_reducible apply wI_not) | with_reducible apply w_bl | with_reducible apply thn_nx | with_reducible apply w_int | with_reducible apply w_obj | with_reducible apply thn_rt | with_reducible apply lp_nx | with_reducible apply fnl_int | with_reducible apply fnl_bl | with_reducible apply fnl_non | with_reducible apply fnl_str | with_reducible apply fnl_nx | with_reducible apply thn_bk | with_reducible apply thn_ct | with_reducible apply thn_xc | with_reducible apply lp_rt | with_reducible apply lp_bk | with_reducible apply lp_xc | with_reducible apply w_itL | with_reducible apply w_itT | with_reducible apply w_itK)
local macro_rules | `(tactic| walk_at "p") => `(tactic| repeat walk_at "w")
/-! RB2t: try, walked. -/
section
variable {C : Store} {Q : D → Store → Prop} {X : Exc → Store → Prop} {F : Fr} {P : RS → Prop} {N M i fl : Nat} {f g : Int × Int → Int} {m : Int} {s0 s1 s2 s3 s4 : Option D}
theorem w_try {v : Nat} {cs ds : List Nat} {mb mh : MS} (h : wS (mb F C) (fun r => match r with
      | .xc e sl C' => e.c ∈ cs ∧ wS (mh ⟨F.fl, sl.set v (some (.exn e.c e.fs))⟩ C') (fun r => ∃ d, r = .rt d C' ∧ nx d = true ∧ P (.rt d C'))
      | r => P r)) : wS (sTry v cs ds mb mh F C) P := by
  refine ⟨?_⟩
  have h := h.h
  unfold sTry
  cases em : mb F C with
  | xc e sl C' =>
    rw [em] at h
    simp only at h ⊢
    obtain ⟨a, g⟩ := h
    obtain ⟨d, er, nd, p⟩ := g.h
    rw [if_pos a, er]
    simp only [nd, and_self, if_true]
    exact p
  | _ => rw [em] at h; exact h
def tryP (v : Nat) (cs : List Nat) (mh : MS) (fl : Nat) (P : RS → Prop) : RS → Prop := fun r => match r with
  | .xc e sl C' => e.c ∈ cs ∧ wS (mh ⟨fl, sl.set v (some (.exn e.c e.fs))⟩ C') (fun r => ∃ d, r = .rt d C' ∧ nx d = true ∧ P (.rt d C'))
  | r => P r
theorem w_try' {v : Nat} {cs ds : List Nat} {mb mh : MS} (h : wS (mb F C) (tryP v cs mh F.fl P)) : wS (sTry v cs ds mb mh F C) P := w_try h
theorem fewP_none (h : fewP N f g = none) (hf : FOk N f) (hg : FOk N g) : ∀ p, g p ≤ f p := fun p => by
  by_cases z : p ∈ pairsL N
  · have := List.find?_eq_none.mp h p z
    simp at this
    omega
  · rw [hf.z p z, hg.z p z]
    omega
end
end CL
set_option maxHeartbeats 4000000
namespace CL
open PySem L2 CT
local macro_rules | `(tactic| walk_at "w") => `(tactic| first | ((with_reducible apply gR); first | with_reducible refine w_var rfl ?_ | with_reducible apply w_cons | with_reducible apply w_c | with_reducible apply w_nil | with_reducible apply w_op | with_reducible apply w_ap | with_reducible apply w_call | with_reducible apply w_tst | with_reducible apply w_un | with_reducible apply w_tand | with_reducible apply w_tor | with_reducible apply w_tnot | with_reducible apply w_yes | with_reducible apply w_and | with_reducible apply w_or | with_reducible apply w_not | with_reducible apply w_if | with_reducible apply w_chain | with_reducible apply w_isi | with_reducible apply w_isi2 | with_reducible apply w_prop | with_reducible apply w_meth | with_reducible apply w_dget | with_reducible apply w_dnewF | with_reducible apply w_dnewT | with_reducible apply w_part | with_reducible apply w_noPart | with_reducible apply w_slLF | with_reducible apply w_slA | with_reducible apply w_ok | with_reducible apply w_ofO | with_reducible apply w_lcI | with_reducible apply w_seqI | with_reducible apply w_rng1 | with_reducible apply w_rng2 | with_reducible apply w_enum) | ((with_reducible apply gO); first | with_reducible apply wo_add | with_reducible apply wo_sub | with_reducible apply wo_lt | with_reducible apply wo_gt | with_reducible apply wo_eq | with_reducible apply wo_ne | with_reducible apply wo_le | with_reducible apply wo_ge | with_reducible apply wo_neg | with_reducible apply wo_eqS | with_reducible apply wo_neS | with_reducible apply wo_min | with_reducible apply wo_max | with_reducible apply wo_int | with_reducible apply wo_abs | with_reducible apply wo_tupL | with_reducible apply wo_tupT | with_reducible refine wo_tup (by with_unfolding_all rfl) ?_ | with_reducible refine wo_lstF (by with_unfolding_all rfl) ?_ | with_reducible refine wo_lstT (by with_unfolding_all rfl) ?_ | with_reducible apply wo_fld0 | with_reducible apply wo_fld1 | with_reducible apply wo_fld2 | with_reducible apply wo_fldW0 | with_reducible apply wo_fldW1 | with_reducible apply wo_fldW2) | ((with_reducible apply gS); first | with_reducible apply w_seq | with_reducible apply w_asg | with_reducible apply w_sif | with_reducible apply w_next | with_reducible apply w_ret | with_reducible apply w_par | with_reducible apply w_drop | with_reducible apply w_asgT | with_reducible apply w_retN | with_reducible apply w_brk | with_reducible apply w_cnt | with_reducible apply w_raise | with_reducible apply w_forI) | ((with_reducible apply gI); first | with_reducible apply wI_t | with_reducible apply wI_f | with_reducible apply wI_not) | with_reducible apply w_bl | with_reducible apply thn_nx | with_reducible apply w_int | with_reducible apply w_obj | with_reducible apply thn_rt | with_reducible apply lp_nx | with_reducible apply fnl_int | with_reducible apply fnl_bl | with_reducible apply fnl_non | with_reducible apply fnl_str | with_reducible apply fnl_nx | with_reducible apply thn_bk | with_reducible apply thn_ct | with_reducible apply thn_xc | with_reducible apply lp_rt | with_reducible apply lp_bk | with_reducible apply lp_xc | with_reducible apply w_itL | with_reducible apply w_itT | with_reducible apply w_itK)
local macro_rules | `(tactic| walk_at "p") => `(tactic| repeat walk_at "w")
/-! RB3p: sums worked out, the pairs out of bounds. -/
structure KOk (N : Nat) (d : Dc) : Prop where
  n : N ≤ 60
  nd : (d.map (·.1)).Nodup
  k : ∀ p ∈ d, p.1 ∈ pairsL N
def badL (e : Dc) : List (Int × Int) := (sk e).filter fun p => decide (dg0 e p < 0) || decide (1000000000 < dg0 e p)
section
variable {N M l l' : Nat} {d S e : Dc} {s : Int} {p q : Int × Int}
theorem foldK_ok {f : Int × Int → Int} {ks : List (Int × Int)} : ∀ {e : Dc}, (∀ p ∈ ks, p ∈ pairsL N) → KOk N e → KOk N (ks.foldl (fun e p => dp e p (f p)) e) ∧ (ks.foldl (fun e p => dp e p (f p)) e).length ≤ e.length + ks.length := by
  induction ks with
  | nil => intro e _ h; exact ⟨h, Nat.le_refl _⟩
  | cons p ks ih =>
    intro e t h
    have kp := t p (List.mem_cons_self ..)
    have ok : KOk N (dp e p (f p)) := ⟨h.n, dp_keys _ _ _ h.nd, fun r hr => by
      rcases mem_dp hr with rfl | hr
      · exact kp
      · exact h.k r hr⟩
    have l1 := dp_len e p (f p)
    obtain ⟨a, b⟩ := ih (e := dp e p (f p)) (fun q hq => t q (List.mem_cons_of_mem _ hq)) ok
    rw [List.foldl_cons]
    exact ⟨a, by rw [List.length_cons]; omega⟩
theorem KOk.key (h : KOk N d) (hp : p ∈ sk d) : p ∈ pairsL N ∧ ∃ n, dg d p = some n := by
  obtain ⟨q, hq, rfl⟩ := List.mem_map.mp (mem_sk.mp hp)
  exact ⟨h.k q hq, q.2, dg0_key h.nd hq⟩
theorem bad_nil : badL e = [] ↔ ∀ p, 0 ≤ dg0 e p ∧ dg0 e p ≤ 1000000000 := by
  unfold badL
  rw [List.filter_eq_nil_iff]
  constructor
  · intro h p
    by_cases z : p ∈ sk e
    · have := h p z
      simp only [Bool.or_eq_true, decide_eq_true_eq] at this
      omega
    · rw [dg0_nk z]
      omega
  · intro h p _
    have := h p
    simp only [Bool.or_eq_true, decide_eq_true_eq]
    omega
theorem KOk.dok (h : KOk N e) (hb : badL e = []) (hl : e.length ≤ 900) : DOk N e := by
  refine ⟨h.n, h.nd, fun p hp => ?_, hl⟩
  have k := mem_pairsI.mp (h.k p hp)
  have b := bad_nil.mp hb p.1
  have : dg0 e p.1 = p.2 := by
    unfold dg0
    rw [dg0_key h.nd hp]
    rfl
  exact ⟨k.1, k.2.1, k.2.2, by omega, by omega⟩
def pQ (p : Int × Int) : PyData := .tuple [.int p.1, .int p.2]
theorem toPs_pQ (Y : Store) : ∀ l : List (Int × Int), toPs Y (l.map pD) = some (l.map pQ)
  | [] => rfl
  | x :: l => by
    have ih := toPs_pQ Y l
    simp only [List.map_cons, toPs, toP, pD, ih, pQ, Option.map_some]
theorem lay_pQ : ∀ l : List (Int × Int), PyData.canLayAll0 (l.map pQ) = true ∧ PyData.depthAll (l.map pQ) ≤ 1
  | [] => ⟨rfl, by simp [PyData.depthAll]⟩
  | x :: l => by
    have := lay_pQ l
    refine ⟨?_, ?_⟩
    · simp only [List.map_cons, PyData.canLayAll0, pQ, PyData.canLay0, Bool.true_and]
      exact this.1
    · have h2 := this.2
      have h3 : (pQ x).depth = 1 := by simp [pQ, PyData.depth, PyData.depthAll]
      simp only [List.map_cons, PyData.depthAll, h3]
      omega
end
end CL
set_option maxHeartbeats 4000000
namespace CL
open PySem L2 CT
local macro_rules | `(tactic| walk_at "w") => `(tactic| first | ((with_reducible apply gR); first | with_reducible refine w_var rfl ?_ | with_reducible apply w_cons | with_reducible apply w_c | with_reducible apply w_nil | with_reducible apply w_op | with_reducible apply w_ap | with_reducible apply w_call | with_reducible apply w_tst | with_reducible apply w_un | with_reducible apply w_tand | with_reducible apply w_tor | with_reducible apply w_tnot | with_reducible apply w_yes | with_reducible apply w_and | with_reducible apply w_or | with_reducible apply w_not | with_reducible apply w_if | with_reducible apply w_chain | with_reducible apply w_isi | with_reducible apply w_isi2 | with_reducible apply w_prop | with_reducible apply w_meth | with_reducible apply w_dget | with_reducible apply w_dnewF | with_reducible apply w_dnewT | with_reducible apply w_part | with_reducible apply w_noPart | with_reducible apply w_slLF | with_reducible apply w_slA | with_reducible apply w_ok | with_reducible apply w_ofO | with_reducible apply w_lcI | with_reducible apply w_seqI | with_reducible apply w_rng1 | with_reducible apply w_rng2 | with_reducible apply w_enum) | ((with_reducible apply gO); first | with_reducible apply wo_add | with_reducible apply wo_sub | with_reducible apply wo_lt | with_reducible apply wo_gt | with_reducible apply wo_eq | with_reducible apply wo_ne | with_reducible apply wo_le | with_reducible apply wo_ge | with_reducible apply wo_neg | with_reducible apply wo_eqS | with_reducible apply wo_neS | with_reducible apply wo_min | with_reducible apply wo_max | with_reducible apply wo_int | with_reducible apply wo_abs | with_reducible apply wo_tupL | with_reducible apply wo_tupT | with_reducible refine wo_tup (by with_unfolding_all rfl) ?_ | with_reducible refine wo_lstF (by with_unfolding_all rfl) ?_ | with_reducible refine wo_lstT (by with_unfolding_all rfl) ?_ | with_reducible apply wo_fld0 | with_reducible apply wo_fld1 | with_reducible apply wo_fld2 | with_reducible apply wo_fldW0 | with_reducible apply wo_fldW1 | with_reducible apply wo_fldW2) | ((with_reducible apply gS); first | with_reducible apply w_seq | with_reducible apply w_asg | with_reducible apply w_sif | with_reducible apply w_next | with_reducible apply w_ret | with_reducible apply w_par | with_reducible apply w_drop | with_reducible apply w_asgT | with_reducible apply w_retN | with_reducible apply w_brk | with_reducible apply w_cnt | with_reducible apply w_raise | with_reducible apply w_forI) | ((with_reducible apply gI); first | with_reducible apply wI_t | with_reducible apply wI_f | with_reducible apply wI_not) | with_reducible apply w_bl | with_reducible apply thn_nx | with_reducible apply w_int | with_reducible apply w_obj | with_reducible apply thn_rt | with_reducible apply lp_nx | with_reducible apply fnl_int | with_reducible apply fnl_bl | with_reducible apply fnl_non | with_reducible apply fnl_str | with_reducible apply fnl_nx | with_reducible apply thn_bk | with_reducible apply thn_ct | with_reducible apply thn_xc | with_reducible apply lp_rt | with_reducible apply lp_bk | with_reducible apply lp_xc | with_reducible apply w_itL | with_reducible apply w_itT | with_reducible apply w_itK)
local macro_rules | `(tactic| walk_at "p") => `(tactic| repeat walk_at "w")
/-! RA2m: web * k walked. -/
section
variable {C : Store} {Q : D → Store → Prop} {X : Exc → Store → Prop} {F : Fr} {P : RS → Prop} {N M : Nat} {f g : Int × Int → Int} {n : Int}
theorem mul_w (hf : FOk N f) (n0 : 0 ≤ n) (b : ∀ p, f p * n ≤ 1000000000) (q : Q (webD N fun k => f k * n) C) : wR (m_Web__mul [webD N f, .int n] C) Q X := by
  have l1 := ties_len (f := f) hf.n
  have cm : ∀ t ∈ tiesL N f, cMul t.2.2 n = true := fun t ht => by
    have v := tie_valid hf ht
    have h := v.2.2.2.2.2
    simp only [cMul, Bool.or_eq_true, Bool.and_eq_true, decide_eq_true_eq]
    refine .inl ⟨?_, ?_⟩ <;> omega
  rw [e_Web__mul]
  apply w_fin
  unfold b_Web__mul b_Web__mul_0
  walk_at "p"
  refine w_of (is_integer_int _ _) ?_
  walk_at "p"
  unfold b_Web__mul_1
  walk_at "p"
  refine lc_p (pure_C ((tiesL N f).map triD)) (fun _ => true) (fun y => .bl false) (by rw [List.length_map]; omega) (fun y hy => ?_) (fun y hy _ => rfl) ?_
  · obtain ⟨t, ht, rfl⟩ := List.mem_map.mp hy
    have pt := pr_tie ht
    refine ⟨_, rfl, fun acc => ⟨w_yes ⟨rfl, rfl⟩, fun _ => ?_⟩⟩
    walk_at "p"
    refine wo_mul (cm t ht) ?_
    walk_at "p"
    refine ⟨?_, rfl⟩
    congr 1
    have := b (t.1, t.2.1)
    rw [← pt.2.1] at this
    exact decide_eq_false (by omega)
  walk_at "p"
  refine wo_of (anyF (C := C) fun d hd => by
    obtain ⟨y, _, rfl⟩ := List.mem_map.mp hd
    rfl) ?_
  walk_at "p"
  unfold b_Web__mul_2
  walk_at "p"
  refine w_mkT ?_
  walk_at "p"
  refine lc_p (pure_C ((tiesL N f).map triD)) (fun _ => true) (fun y => match y with | .tup [.int a, .int b, .int m] => triD (a, b, m * n) | _ => .non) (by rw [List.length_map]; omega) (fun y hy => ?_) (fun y hy _ => ?_) ?_
  · obtain ⟨t, ht, rfl⟩ := List.mem_map.mp hy
    refine ⟨_, rfl, fun acc => ⟨w_yes ⟨rfl, rfl⟩, fun _ => ?_⟩⟩
    walk_at "p"
    refine wo_mul (cm t ht) ?_
    walk_at "p"
    exact ⟨rfl, rfl⟩
  · obtain ⟨t, ht, rfl⟩ := List.mem_map.mp hy
    rfl
  have e : (((tiesL N f).map triD).filter fun _ => true).map (fun y => match y with | .tup [.int a, .int b, .int m] => triD (a, b, m * n) | _ => .non) = (mulL N f n).map triD := by
    rw [filter_yes]
    unfold mulL
    rw [List.map_map, List.map_map]
    rfl
  rw [e]
  walk_at "p"
  refine w_of (make_ok (N := N) (L := mulL N f n) (d := .lst ((mulL N f n).map triD)) (ds := [.int N, .lst ((mulL N f n).map triD)]) (fits_mul hf n0 b) (.inl rfl) rfl rfl) ?_
  rw [fL_mul hf]
  refine fnl_p (cb_web _ _ _) ?_
  rw [List.take_length]
  exact q
theorem rmul_w (hf : FOk N f) (n0 : 0 ≤ n) (b : ∀ p, f p * n ≤ 1000000000) (q : Q (webD N fun k => f k * n) C) : wR (m_Web__rmul [webD N f, .int n] C) Q X := by
  rw [e_Web__rmul]
  apply w_fin
  unfold b_Web__rmul b_Web__rmul_0
  walk_at "p"
  refine w_of (is_integer_int _ _) ?_
  walk_at "p"
  unfold b_Web__rmul_1
  walk_at "p"
  refine w_mulR ?_
  walk_at "p"
  refine ⟨rfl, mul_w hf n0 b ?_⟩
  refine fnl_p (cb_web _ _ _) ?_
  rw [List.take_length]
  exact q
end
end CL
set_option maxHeartbeats 4000000
namespace CL
open PySem L2 CT
local macro_rules | `(tactic| walk_at "w") => `(tactic| first | ((with_reducible apply gR); first | with_reducible refine w_var rfl ?_ | with_reducible apply w_cons | with_reducible apply w_c | with_reducible apply w_nil | with_reducible apply w_op | with_reducible apply w_ap | with_reducible apply w_call | with_reducible apply w_tst | with_reducible apply w_un | with_reducible apply w_tand | with_reducible apply w_tor | with_reducible apply w_tnot | with_reducible apply w_yes | with_reducible apply w_and | with_reducible apply w_or | with_reducible apply w_not | with_reducible apply w_if | with_reducible apply w_chain | with_reducible apply w_isi | with_reducible apply w_isi2 | with_reducible apply w_prop | with_reducible apply w_meth | with_reducible apply w_dget | with_reducible apply w_dnewF | with_reducible apply w_dnewT | with_reducible apply w_part | with_reducible apply w_noPart | with_reducible apply w_slLF | with_reducible apply w_slA | with_reducible apply w_ok | with_reducible apply w_ofO | with_reducible apply w_lcI | with_reducible apply w_seqI | with_reducible apply w_rng1 | with_reducible apply w_rng2 | with_reducible apply w_enum) | ((with_reducible apply gO); first | with_reducible apply wo_add | with_reducible apply wo_sub | with_reducible apply wo_lt | with_reducible apply wo_gt | with_reducible apply wo_eq | with_reducible apply wo_ne | with_reducible apply wo_le | with_reducible apply wo_ge | with_reducible apply wo_neg | with_reducible apply wo_eqS | with_reducible apply wo_neS | with_reducible apply wo_min | with_reducible apply wo_max | with_reducible apply wo_int | with_reducible apply wo_abs | with_reducible apply wo_tupL | with_reducible apply wo_tupT | with_reducible refine wo_tup (by with_unfolding_all rfl) ?_ | with_reducible refine wo_lstF (by with_unfolding_all rfl) ?_ | with_reducible refine wo_lstT (by with_unfolding_all rfl) ?_ | with_reducible apply wo_fld0 | with_reducible apply wo_fld1 | with_reducible apply wo_fld2 | with_reducible apply wo_fldW0 | with_reducible apply wo_fldW1 | with_reducible apply wo_fldW2) | ((with_reducible apply gS); first | with_reducible apply w_seq | with_reducible apply w_asg | with_reducible apply w_sif | with_reducible apply w_next | with_reducible apply w_ret | with_reducible apply w_par | with_reducible apply w_drop | with_reducible apply w_asgT | with_reducible apply w_retN | with_reducible apply w_brk | with_reducible apply w_cnt | with_reducible apply w_raise | with_reducible apply w_forI) | ((with_reducible apply gI); first | with_reducible apply wI_t | with_reducible apply wI_f | with_reducible apply wI_not) | with_reducible apply w_bl | with_reducible apply thn_nx | with_reducible apply w_int | with_reducible apply w_obj | with_reducible apply thn_rt | with_reducible apply lp_nx | with_reducible apply fnl_int | with_reducible apply fnl_bl | with_reducible apply fnl_non | with_reducible apply fnl_str | with_reducible apply fnl_nx | with_reducible apply thn_bk | with_reducible apply thn_ct | with_reducible apply thn_xc | with_reducible apply lp_rt | with_reducible apply lp_bk | with_reducible apply lp_xc | with_reducible apply w_itL | with_reducible apply w_itT | with_reducible apply w_itK)
local macro_rules | `(tactic| walk_at "p") => `(tactic| repeat walk_at "w")
/-! TA1: products refused, _law_done (k23). -/
section
variable {C : Store} {Q : D → Store → Prop} {X : Exc → Store → Prop} {F : Fr} {P : RS → Prop} {N M i fl : Nat} {f g : Int × Int → Int} {m n : Int} {s0 s1 s2 s3 s4 s5 : Option D}
theorem mul_big (hf : FOk N f) (n0 : 0 ≤ n) (b : ∃ p, 1000000000 < f p * n) (q : X ⟨2, [.int 1000000000]⟩ C) : wR (m_Web__mul [webD N f, .int n] C) Q X := by
  have l1 := ties_len (f := f) hf.n
  have cm : ∀ t ∈ tiesL N f, cMul t.2.2 n = true := fun t ht => by
    have v := tie_valid hf ht
    have h := v.2.2.2.2.2
    simp only [cMul, Bool.or_eq_true, Bool.and_eq_true, decide_eq_true_eq]
    refine .inl ⟨?_, ?_⟩ <;> omega
  obtain ⟨p, hp⟩ := b
  have fp : 0 < f p := by
    have h0 := (hf.b p).1
    rcases Int.lt_or_eq_of_le h0 with h | h
    · exact h
    · rw [← h, Int.zero_mul] at hp
      omega
  have pm : p ∈ pairsL N := Classical.byContradiction fun z => by
    rw [hf.z p z] at fp
    omega
  have tm : (p.1, p.2, f p) ∈ tiesL N f := by
    unfold tiesL
    exact List.mem_map.mpr ⟨p, List.mem_filter.mpr ⟨pm, decide_eq_true fp⟩, rfl⟩
  rw [e_Web__mul]
  apply w_fin
  unfold b_Web__mul b_Web__mul_0
  walk_at "p"
  refine w_of (is_integer_int _ _) ?_
  walk_at "p"
  unfold b_Web__mul_1
  walk_at "p"
  refine lc_p (pure_C ((tiesL N f).map triD)) (fun _ => true) (fun y => match y with | .tup [_, _, .int x] => .bl (decide (1000000000 < x * n)) | _ => .bl false) (by rw [List.length_map]; omega) (fun y hy => ?_) (fun y hy _ => ?_) ?_
  · obtain ⟨t, ht, rfl⟩ := List.mem_map.mp hy
    refine ⟨_, rfl, fun acc => ⟨w_yes ⟨rfl, rfl⟩, fun _ => ?_⟩⟩
    walk_at "p"
    refine wo_mul (cm t ht) ?_
    walk_at "p"
    exact ⟨rfl, rfl⟩
  · obtain ⟨t, ht, rfl⟩ := List.mem_map.mp hy
    rfl
  walk_at "p"
  refine wo_of (anyT (C := C) (fun d hd => by
    obtain ⟨y, hy, rfl⟩ := List.mem_map.mp hd
    obtain ⟨t, ht, rfl⟩ := List.mem_map.mp (List.mem_filter.mp hy).1
    exact ⟨_, rfl⟩) (by
    refine List.mem_map.mpr ⟨triD (p.1, p.2, f p), List.mem_filter.mpr ⟨List.mem_map.mpr ⟨_, tm, rfl⟩, rfl⟩, ?_⟩
    show D.bl (decide (1000000000 < f p * n)) = _
    rw [decide_eq_true hp])) ?_
  walk_at "p"
  refine ⟨rfl, ?_⟩
  walk_at "p"
  refine fnl_xc rfl ?_
  rw [List.take_length]
  exact q
theorem rmul_big (hf : FOk N f) (n0 : 0 ≤ n) (b : ∃ p, 1000000000 < f p * n) (q : X ⟨2, [.int 1000000000]⟩ C) : wR (m_Web__rmul [webD N f, .int n] C) Q X := by
  rw [e_Web__rmul]
  apply w_fin
  unfold b_Web__rmul b_Web__rmul_0
  walk_at "p"
  refine w_of (is_integer_int _ _) ?_
  walk_at "p"
  unfold b_Web__rmul_1
  walk_at "p"
  refine w_mulR ?_
  walk_at "p"
  refine ⟨rfl, mul_big hf n0 b ?_⟩
  refine fnl_xc rfl ?_
  rw [List.take_length]
  exact q
theorem cnt5 (a b c : Bool) (F : Fr) (h : F.sl[5]? = some (some (.lst [.bl a, .bl b, .bl c]))) (n : Int) (hn : n = (if a then 1 else 0) + (if b then 1 else 0) + (if c then 1 else 0)) : mCount (mVar 5) (mC (.bl true)) F C = .ok (.int n) C := by
  subst hn
  have e : mVar 5 F C = .ok (.lst [.bl a, .bl b, .bl c]) C := by
    show (match F.sl[5]? with | some (some d) => R.ok d C | _ => R.stuck) = _
    rw [h]
  unfold mCount
  rw [e]
  cases a <;> cases b <;> cases c <;> rfl
/-- the clause -/
theorem suite_w {e : Exc} (hc : e.c = 4 ∧ (∃ x y : Int, e.fs = [.int x, .int y] ∧ P (.rt (.tup [.str "unequal", .tup [.int y, .int x]]) C)) ∨ e.c = 2 ∧ (∃ x : Int, e.fs = [.int x] ∧ P (.rt (.tup [.str "many", .int x]) C)) ∨ e.c = 3 ∧ (∃ p : Int × Int, e.fs = [pD p] ∧ P (.rt (.tup [.str "few", pD p]) C))) :
    wS (b_law_donex_ ⟨fl, [s0, s1, s2, s3, some (.exn e.c e.fs), s5]⟩ C) (fun r => ∃ d, r = .rt d C ∧ nx d = true ∧ P (.rt d C)) := by
  obtain ⟨c, fs⟩ := e
  simp only at hc ⊢
  unfold b_law_donex_ b_law_donex_0
  rcases hc with ⟨rfl, x, y, rfl, p⟩ | ⟨rfl, x, rfl, p⟩ | ⟨rfl, z, rfl, p⟩
  · walk_at "p"
    refine wo_of (d := .bl true) rfl ?_
    walk_at "p"
    refine wo_of (d := .bl false) rfl ?_
    walk_at "p"
    refine wo_of (d := .bl false) rfl ?_
    walk_at "p"
    unfold b_law_donex_1
    walk_at "p"
    refine w_of (cnt5 true false false _ rfl 1 rfl) ?_
    walk_at "p"
    refine wI_dt rfl ?_
    walk_at "p"
    unfold b_law_donex_2
    walk_at "p"
    refine wo_of (d := .bl true) rfl ?_
    walk_at "p"
    refine wo_of (d := .int y) rfl ?_
    walk_at "p"
    refine wo_of (d := .int x) rfl ?_
    walk_at "p"
    exact ⟨_, rfl, rfl, p⟩
  · walk_at "p"
    refine wo_of (d := .bl false) rfl ?_
    walk_at "p"
    refine wo_of (d := .bl true) rfl ?_
    walk_at "p"
    refine wo_of (d := .bl false) rfl ?_
    walk_at "p"
    unfold b_law_donex_1
    walk_at "p"
    refine w_of (cnt5 false true false _ rfl 1 rfl) ?_
    walk_at "p"
    refine wI_dt rfl ?_
    walk_at "p"
    unfold b_law_donex_2
    walk_at "p"
    refine wo_of (d := .bl false) rfl ?_
    walk_at "p"
    unfold b_law_donex_3
    walk_at "p"
    refine wo_of (d := .bl true) rfl ?_
    walk_at "p"
    refine wo_of (d := .int x) rfl ?_
    walk_at "p"
    exact ⟨_, rfl, rfl, p⟩
  · walk_at "p"
    refine wo_of (d := .bl false) rfl ?_
    walk_at "p"
    refine wo_of (d := .bl false) rfl ?_
    walk_at "p"
    refine wo_of (d := .bl true) rfl ?_
    walk_at "p"
    unfold b_law_donex_1
    walk_at "p"
    refine w_of (cnt5 false false true _ rfl 1 rfl) ?_
    walk_at "p"
    refine wI_dt rfl ?_
    walk_at "p"
    unfold b_law_donex_2
    walk_at "p"
    refine wo_of (d := .bl false) rfl ?_
    walk_at "p"
    unfold b_law_donex_3
    walk_at "p"
    refine wo_of (d := .bl false) rfl ?_
    walk_at "p"
    refine wo_of (d := pD z) rfl ?_
    walk_at "p"
    exact ⟨_, rfl, rfl, p⟩
theorem tryP_rt {v : Nat} {cs : List Nat} {mh : MS} {d : D} (h : P (.rt d C)) : tryP v cs mh fl P (.rt d C) := h
theorem done_w (hm : m = 0 ∨ m = 1 ∨ m = 2 ∨ m = 3) (hf : FOk N f) (hg : FOk M g) (n0 : 0 ≤ n)
    (une : N ≠ M → m = 0 ∨ m = 1 → Q (.tup [.str "unequal", .tup [.int N, .int M]]) C)
    (many : N = M → m = 0 → (∃ p, 1000000000 < f p + g p) → Q (.tup [.str "many", .int 1000000000]) C)
    (few : N = M → m = 1 → ∀ p, fewP N f g = some p → Q (.tup [.str "few", pD p]) C)
    (manym : m = 2 ∨ m = 3 → (∃ p, 1000000000 < f p * n) → Q (.tup [.str "many", .int 1000000000]) C)
    (ok0 : N = M → m = 0 → (∀ p, f p + g p ≤ 1000000000) → Q (.tup [.str "web", webD N fun k => f k + g k]) C)
    (ok1 : N = M → m = 1 → fewP N f g = none → Q (.tup [.str "web", webD N fun k => f k - g k]) C)
    (ok2 : m = 2 ∨ m = 3 → (∀ p, f p * n ≤ 1000000000) → Q (.tup [.str "web", webD N fun k => f k * n]) C) : wR (m_law_done [.int m, webD N f, webD M g, .int n] C) Q X := by
  have fin : ∀ d, cb 0 d = true → Q d C → fnl C.length Q X (.rt d C) := fun d hc q => fnl_p hc (by rw [List.take_length]; exact q)
  have cw : ∀ h : Int × Int → Int, cb 0 (.tup [.str "web", webD N h]) = true := fun h => by
    show (true && (cb 0 (webD N h) && true)) = true
    rw [cb_web]
    rfl
  rw [e_law_done]
  apply w_fin
  unfold b_law_done
  refine w_try' ?_
  unfold b_law_donet_ b_law_donet_0
  walk_at "p"
  rcases hm with rfl | rfl | hm
  · refine wI_dt rfl ?_
    walk_at "p"
    refine w_binO ?_
    walk_at "p"
    refine ⟨rfl, ?_⟩
    by_cases e : N = M
    · subst e
      by_cases b : ∃ p, 1000000000 < f p + g p
      · refine add_big hf hg b ?_
        refine ⟨(show (2 : Nat) ∈ [2, 3, 4] by decide), suite_w (.inr (.inl ⟨rfl, _, rfl, ?_⟩))⟩
        exact fin _ rfl (many rfl rfl b)
      · have b' : ∀ p, f p + g p ≤ 1000000000 := fun p => by
          exact Classical.byContradiction fun z => b ⟨p, by omega⟩
        refine add_w hf hg b' ?_
        walk_at "p"
        refine tryP_rt (fin _ (cw _) (ok0 rfl rfl b'))
    · refine add_ne e ?_
      refine ⟨(show (4 : Nat) ∈ [2, 3, 4] by decide), suite_w (.inl ⟨rfl, _, _, rfl, ?_⟩)⟩
      exact fin _ rfl (une e (.inl rfl))
  · refine wI_df (by decide) ?_
    walk_at "p"
    unfold b_law_donet_1
    walk_at "p"
    refine wI_dt rfl ?_
    walk_at "p"
    refine w_binO ?_
    walk_at "p"
    refine ⟨rfl, ?_⟩
    by_cases e : N = M
    · subst e
      cases b : fewP N f g with
      | some p =>
        refine sub_few hf hg b ?_
        refine ⟨(show (3 : Nat) ∈ [2, 3, 4] by decide), suite_w (.inr (.inr ⟨rfl, p, rfl, ?_⟩))⟩
        exact fin _ rfl (few rfl rfl p b)
      | none =>
        refine sub_w hf hg (fewP_none b hf hg) ?_
        walk_at "p"
        refine tryP_rt (fin _ (cw _) (ok1 rfl rfl b))
    · refine sub_ne e ?_
      refine ⟨(show (4 : Nat) ∈ [2, 3, 4] by decide), suite_w (.inl ⟨rfl, _, _, rfl, ?_⟩)⟩
      exact fin _ rfl (une e (.inr rfl))
  · have ne0 : ¬ m = 0 := by omega
    have ne1 : ¬ m = 1 := by omega
    refine wI_df ne0 ?_
    walk_at "p"
    unfold b_law_donet_1
    walk_at "p"
    refine wI_df ne1 ?_
    walk_at "p"
    unfold b_law_donet_2
    walk_at "p"
    refine wI_d (fun h2 => ?_) fun h2 => ?_
    · walk_at "p"
      refine w_mulR ?_
      walk_at "p"
      refine ⟨rfl, ?_⟩
      by_cases b : ∃ p, 1000000000 < f p * n
      · refine mul_big hf n0 b ?_
        refine ⟨(show (2 : Nat) ∈ [2, 3, 4] by decide), suite_w (.inr (.inl ⟨rfl, _, rfl, ?_⟩))⟩
        exact fin _ rfl (manym hm b)
      · have b' : ∀ p, f p * n ≤ 1000000000 := fun p => by
          exact Classical.byContradiction fun z => b ⟨p, by omega⟩
        refine mul_w hf n0 b' ?_
        walk_at "p"
        refine tryP_rt (fin _ (cw _) (ok2 hm b'))
    · walk_at "p"
      unfold b_law_donet_3
      walk_at "p"
      refine w_mulL ?_
      walk_at "p"
      refine ⟨rfl, ?_⟩
      by_cases b : ∃ p, 1000000000 < f p * n
      · refine rmul_big hf n0 b ?_
        refine ⟨(show (2 : Nat) ∈ [2, 3, 4] by decide), suite_w (.inr (.inl ⟨rfl, _, rfl, ?_⟩))⟩
        exact fin _ rfl (manym hm b)
      · have b' : ∀ p, f p * n ≤ 1000000000 := fun p => by
          exact Classical.byContradiction fun z => b ⟨p, by omega⟩
        refine rmul_w hf n0 b' ?_
        walk_at "p"
        refine tryP_rt (fin _ (cw _) (ok2 hm b'))
end
end CL
set_option maxHeartbeats 4000000
namespace CL
open PySem L2 CT
local macro_rules | `(tactic| walk_at "w") => `(tactic| first | ((with_reducible apply gR); first | with_reducible refine w_var rfl ?_ | with_reducible apply w_cons | with_reducible apply w_c | with_reducible apply w_nil | with_reducible apply w_op | with_reducible apply w_ap | with_reducible apply w_call | with_reducible apply w_tst | with_reducible apply w_un | with_reducible apply w_tand | with_reducible apply w_tor | with_reducible apply w_tnot | with_reducible apply w_yes | with_reducible apply w_and | with_reducible apply w_or | with_reducible apply w_not | with_reducible apply w_if | with_reducible apply w_chain | with_reducible apply w_isi | with_reducible apply w_isi2 | with_reducible apply w_prop | with_reducible apply w_meth | with_reducible apply w_dget | with_reducible apply w_dnewF | with_reducible apply w_dnewT | with_reducible apply w_part | with_reducible apply w_noPart | with_reducible apply w_slLF | with_reducible apply w_slA | with_reducible apply w_ok | with_reducible apply w_ofO | with_reducible apply w_lcI | with_reducible apply w_seqI | with_reducible apply w_rng1 | with_reducible apply w_rng2 | with_reducible apply w_enum) | ((with_reducible apply gO); first | with_reducible apply wo_add | with_reducible apply wo_sub | with_reducible apply wo_lt | with_reducible apply wo_gt | with_reducible apply wo_eq | with_reducible apply wo_ne | with_reducible apply wo_le | with_reducible apply wo_ge | with_reducible apply wo_neg | with_reducible apply wo_eqS | with_reducible apply wo_neS | with_reducible apply wo_min | with_reducible apply wo_max | with_reducible apply wo_int | with_reducible apply wo_abs | with_reducible apply wo_tupL | with_reducible apply wo_tupT | with_reducible refine wo_tup (by with_unfolding_all rfl) ?_ | with_reducible refine wo_lstF (by with_unfolding_all rfl) ?_ | with_reducible refine wo_lstT (by with_unfolding_all rfl) ?_ | with_reducible apply wo_fld0 | with_reducible apply wo_fld1 | with_reducible apply wo_fld2 | with_reducible apply wo_fldW0 | with_reducible apply wo_fldW1 | with_reducible apply wo_fldW2) | ((with_reducible apply gS); first | with_reducible apply w_seq | with_reducible apply w_asg | with_reducible apply w_sif | with_reducible apply w_next | with_reducible apply w_ret | with_reducible apply w_par | with_reducible apply w_drop | with_reducible apply w_asgT | with_reducible apply w_retN | with_reducible apply w_brk | with_reducible apply w_cnt | with_reducible apply w_raise | with_reducible apply w_forI) | ((with_reducible apply gI); first | with_reducible apply wI_t | with_reducible apply wI_f | with_reducible apply wI_not) | with_reducible apply w_bl | with_reducible apply thn_nx | with_reducible apply w_int | with_reducible apply w_obj | with_reducible apply thn_rt | with_reducible apply lp_nx | with_reducible apply fnl_int | with_reducible apply fnl_bl | with_reducible apply fnl_non | with_reducible apply fnl_str | with_reducible apply fnl_nx | with_reducible apply thn_bk | with_reducible apply thn_ct | with_reducible apply thn_xc | with_reducible apply lp_rt | with_reducible apply lp_bk | with_reducible apply lp_xc | with_reducible apply w_itL | with_reducible apply w_itT | with_reducible apply w_itK)
local macro_rules | `(tactic| walk_at "p") => `(tactic| repeat walk_at "w")
/-! TA2: _law_due (k23). -/
def uks (d S : Dc) : List (Int × Int) := (srtI ((d.map (·.1) ++ S.map (·.1)).map cdP)).map fun c => (c / 64, c % 64)
def mixS (s : Int) (d S : Dc) (ks : List (Int × Int)) : Dc := ks.foldl (fun e p => dp e p (dg0 d p + s * dg0 S p)) []
section
variable {N l l' : Nat} {d S e : Dc} {s : Int} {p q : Int × Int} {C : Store} {Q : D → Store → Prop} {X : Exc → Store → Prop} {F : Fr} {P : RS → Prop}
theorem keyB (h : DOk N d) (hp : p ∈ d.map (·.1)) : 0 ≤ p.1 ∧ p.1 < 64 ∧ 0 ≤ p.2 ∧ p.2 < 64 ∧ p ∈ pairsL N := by
  obtain ⟨q, hq, rfl⟩ := List.mem_map.mp hp
  have k := h.k q hq
  have n := h.n
  exact ⟨k.1, by omega, by omega, by omega, mem_pairsI.mpr ⟨k.1, k.2.1, k.2.2.1⟩⟩
theorem mem_uks (hd : DOk N d) (hS : DOk N S) : q ∈ uks d S ↔ q ∈ d.map (·.1) ∨ q ∈ S.map (·.1) := by
  unfold uks
  rw [List.mem_map]
  have dec : ∀ r : Int × Int, r ∈ d.map (·.1) ++ S.map (·.1) → ((cdP r) / 64, (cdP r) % 64) = r := fun r hr => by
    have b : 0 ≤ r.1 ∧ r.1 < 64 ∧ 0 ≤ r.2 ∧ r.2 < 64 ∧ r ∈ pairsL N := by
      rcases List.mem_append.mp hr with h | h
      · exact keyB hd h
      · exact keyB hS h
    unfold cdP
    exact Prod.ext (by simp only; omega) (by simp only; omega)
  constructor
  · rintro ⟨c, hc, rfl⟩
    rw [srtI_mem, List.mem_map] at hc
    obtain ⟨r, hr, rfl⟩ := hc
    rw [dec r hr]
    exact List.mem_append.mp hr
  · intro h
    have hr : q ∈ d.map (·.1) ++ S.map (·.1) := List.mem_append.mpr h
    exact ⟨cdP q, srtI_mem.mpr (List.mem_map.mpr ⟨q, hr, rfl⟩), dec q hr⟩
theorem uks_len : (uks d S).length ≤ d.length + S.length := by
  have h : ∀ l : List Int, (srtI l).length ≤ l.length := by
    have h2 : ∀ (x : Int) (l : List Int), (insI x l).length ≤ l.length + 1 := by
      intro x l
      induction l with
      | nil => simp [insI]
      | cons y r ih =>
        unfold insI
        split
        · simp
        · split
          · simp
          · simp only [List.length_cons]
            omega
    intro l
    induction l with
    | nil => simp [srtI]
    | cons y r ih =>
      show (insI y (srtI r)).length ≤ _
      have := h2 y (srtI r)
      simp only [List.length_cons]
      omega
  unfold uks
  have := h ((d.map (·.1) ++ S.map (·.1)).map cdP)
  rw [List.length_map]
  simpa using this
theorem keysD (h : vD (D.dT (dcK d) (dcV d)) C = some (dcK d, dcV d)) : oListOfD false [.dT (dcK d) (dcV d)] C = some (.lst ((d.map (·.1)).map prD), C) := by
  have e : (dcK d).map (fun q => D.tup (q.map kyD)) = (d.map (·.1)).map prD := by
    unfold dcK
    rw [List.map_map, List.map_map]
    rfl
  simp only [oListOfD, h, Option.map_some, e]
  rfl
theorem set_srt (hd : DOk N d) (hS : DOk N S) (hl : d.length + S.length < 64) : oSortST false [.lst ((d.map (·.1)).map prD ++ (S.map (·.1)).map prD)] C = some (.lst ((uks d S).map pD), C) := by
  have e := pTups_of (ps := d.map (·.1) ++ S.map (·.1)) fun p hp => by
    have b : 0 ≤ p.1 ∧ p.1 < 64 ∧ 0 ≤ p.2 ∧ p.2 < 64 ∧ p ∈ pairsL N := by
      rcases List.mem_append.mp hp with h | h
      · exact keyB hd h
      · exact keyB hS h
    exact ⟨b.1, b.2.1, b.2.2.1, b.2.2.2.1⟩
  have hl2 : (d.map (·.1) ++ S.map (·.1)).length < 64 := by simpa using hl
  have e2 : (srtI ((d.map (·.1) ++ S.map (·.1)).map cdP)).map dcP = (uks d S).map pD := by
    unfold uks
    rw [List.map_map]
    rfl
  rw [List.map_append] at e
  simp only [oSortST, vL, Option.bind_some, e, hl2, if_true, e2]
  rfl
theorem mixS_ok (hd : DOk N d) (hS : DOk N S) : KOk N (mixS s d S (uks d S)) ∧ (mixS s d S (uks d S)).length ≤ d.length + S.length ∧ dg0 (mixS s d S (uks d S)) = fun p => dg0 d p + s * dg0 S p := by
  have h := foldK_ok (N := N) (f := fun p => dg0 d p + s * dg0 S p) (ks := uks d S) (e := []) (fun p hp => by
    rcases (mem_uks hd hS).mp hp with h | h
    · exact (keyB hd h).2.2.2.2
    · exact (keyB hS h).2.2.2.2) ⟨hd.n, by simp, by simp⟩
  refine ⟨h.1, Nat.le_trans h.2 (by
    have := uks_len (d := d) (S := S)
    simpa using this), ?_⟩
  funext q
  unfold mixS
  rw [foldD_at (f := fun p => dg0 d p + s * dg0 S p)]
  split
  · rfl
  · rename_i h
    rw [mem_uks hd hS] at h
    have z : ∀ d : Dc, q ∉ d.map (·.1) → dg0 d q = 0 := fun d hq => dg0_nk fun hk => hq (mem_sk.mp hk)
    rw [z d fun k => h (.inl k), z S fun k => h (.inr k), Int.mul_zero]
    rfl
theorem cbL_pD (n : Nat) : ∀ L : List (Int × Int), cbL n (L.map pD) = true
  | [] => rfl
  | p :: L => by
    show (cb n (pD p) && cbL n (L.map pD)) = true
    rw [cbL_pD n L]
    rfl
theorem fnlN_dl {n k : Nat} {S : Store} {e : Dc} {L : List (Int × Int)} (hk : n ≤ k) (hS : S[k]? = some (some (.dT (dcK e) (dcV e)))) (h : Q (.tup [.dT (dcK e) (dcV e), .lst (L.map pD)]) (S.take n)) : fnlN n Q X (.rt (.tup [.cell k, .lst (L.map pD)]) S) := by
  show wR (finN n _ _) Q X
  have iv : (dcV e).map (fzF 1 n S) = dcV e := by
    unfold dcV
    rw [List.map_map]
    rfl
  have e1 : fzF 2 n S (.cell k) = .dT (dcK e) (dcV e) := by
    unfold fzF
    simp only [if_neg (Nat.not_lt.mpr hk), hS, iv]
  have e2 : fzF 2 n S (.lst (L.map pD)) = .lst (L.map pD) := by
    show D.lst ((L.map pD).map (fzF 1 n S)) = _
    rw [List.map_map]
    rfl
  have e3 : fzF 3 n S (.tup [.cell k, .lst (L.map pD)]) = .tup [.dT (dcK e) (dcV e), .lst (L.map pD)] := by
    show D.tup [fzF 2 _ _ (.cell k), fzF 2 _ _ (.lst (L.map pD))] = _
    rw [e1, e2]
  have cl := cbL_pD n L
  unfold finN
  rw [e3, if_pos (by
    show (cbL n (dcV e) && (cbL n (L.map pD) && true)) = true
    rw [cbL_dc, cl]
    rfl)]
  exact w_ok h
theorem due_w (hd : DOk N d) (hS : DOk N S) (hl : d.length + S.length < 64) (hs : s.natAbs ≤ 1000000000)
    (q : ∀ e, KOk N e → e.length ≤ d.length + S.length → dg0 e = (fun p => dg0 d p + s * dg0 S p) → Q (.tup [.dT (dcK e) (dcV e), .lst ((badL e).map pD)]) C) :
    wR (m_law_due [.dT (dcK d) (dcV d), .dT (dcK S) (dcV S), .int s] C) Q X := by
  rw [e_law_due]
  apply w_finN
  unfold b_law_due b_law_due_0
  walk_at "p"
  unfold b_law_due_1
  walk_at "p"
  have at_n : ∀ c : Option Cell, (C ++ [c])[C.length]? = some c := fun c => by simp
  refine wo_of (keysD rfl) ?_
  walk_at "p"
  refine wo_of (keysD rfl) ?_
  walk_at "p"
  refine wo_catF (by simp only [List.length_map]; omega) ?_
  walk_at "p"
  refine wo_of (set_srt hd hS hl) ?_
  walk_at "p"
  have ul := uks_len (d := d) (S := S)
  refine loop_p (pure_C ((uks d S).map pD)) (fun j sl St => St = C ++ [some (.dT (dcK (mixS s d S ((uks d S).take j))) (dcV (mixS s d S ((uks d S).take j))))] ∧ ∃ t4, sl = [some (.dT (dcK d) (dcV d)), some (.dT (dcK S) (dcV S)), some (.int s), some (.cell C.length), t4, none]) ⟨rfl, _, rfl⟩ ?_ ?_
  · rintro j y sl St hy ⟨rfl, t4, rfl⟩
    rw [List.getElem?_map] at hy
    obtain ⟨p, hp, rfl⟩ := Option.map_eq_some_iff.mp hy
    have hz : (mixS s d S ((uks d S).take j)).length < 16777216 := by
      have := (foldK_ok (N := N) (f := fun p => dg0 d p + s * dg0 S p) (ks := (uks d S).take j) (e := []) (fun p hp => by
        rcases (mem_uks hd hS).mp (List.mem_of_mem_take hp) with h | h
        · exact (keyB hd h).2.2.2.2
        · exact (keyB hS h).2.2.2.2) ⟨hd.n, by simp, by simp⟩).2
      rw [List.length_take] at this
      exact Nat.lt_of_le_of_lt this (by simp only [List.length_nil]; omega)
    have sn : mixS s d S ((uks d S).take (j + 1)) = dp (mixS s d S ((uks d S).take j)) p (dg0 d p + s * dg0 S p) := by
      unfold mixS
      rw [take_sn hp, List.foldl_append]
      rfl
    generalize mixS s d S ((uks d S).take j) = e at sn hz ⊢
    refine ⟨_, rfl, ?_⟩
    unfold b_law_due_1b_0
    refine w_put ?_
    walk_at "p"
    refine ⟨rfl, ?_⟩
    walk_at "p"
    refine wo_of (get_at (d := d) rfl) ?_
    walk_at "p"
    refine ⟨rfl, ?_⟩
    walk_at "p"
    refine wo_of (get_at (d := S) rfl) ?_
    walk_at "p"
    refine wo_mul (by
      simp only [cMul, Bool.or_eq_true, Bool.and_eq_true, decide_eq_true_eq]
      exact .inl ⟨by omega, by omega⟩) ?_
    walk_at "p"
    refine ⟨_, by
      simp only [ev_put, puK_ok, puK2_ok, puK3_ok]
      exact put_at (at_n _) hz (.inr trivial), ?_⟩
    refine lp_nx ⟨?_, _, rfl⟩
    rw [sn]
    have ep : ((p.1, p.2) : Int × Int) = p := rfl
    rw [ep]
    simp
  · rintro sl St ⟨rfl, t4, rfl⟩
    rw [List.length_map, List.take_length]
    obtain ⟨kk, kl2, all⟩ := mixS_ok (s := s) hd hS
    generalize mixS s d S (uks d S) = e at kk kl2 all ⊢
    have hv : vD (.cell C.length) (C ++ [some (.dT (dcK e) (dcV e))]) = some (dcK e, dcV e) := by simp only [vD, at_n]
    have hvY : ∀ Y, vD (.cell C.length) (C ++ [some (.dT (dcK e) (dcV e))] ++ Y) = some (dcK e, dcV e) := fun Y => by
      have : (C ++ [some (Cell.dT (dcK e) (dcV e))] ++ Y)[C.length]? = some (some (.dT (dcK e) (dcV e))) := by simp
      simp only [vD, this]
    walk_at "p"
    unfold b_law_due_2
    walk_at "p"
    refine wo_of (sort_dc hv) ?_
    walk_at "p"
    refine lc_p (pure_C ((sk e).map pD)) (fun y => match y with | .tup [.int a, .int b] => decide (dg0 e (a, b) < 0) || decide (1000000000 < dg0 e (a, b)) | _ => false) id (by rw [List.length_map, sk_len]; omega) (fun y hy => ?_) (fun y hy _ => ?_) ?_
    · obtain ⟨p, hp, rfl⟩ := List.mem_map.mp hy
      obtain ⟨kp, c, hc⟩ := kk.key hp
      have ec : dg0 e p = c := by unfold dg0; rw [hc]; rfl
      refine ⟨_, rfl, fun acc => ⟨?_, fun _ => ?_⟩⟩
      · walk_at "p"
        refine wo_of (ix_at (hvY _) hc) ?_
        walk_at "p"
        refine wI_d (fun z => ⟨?_, rfl⟩) fun z => ?_
        · show true = (decide (dg0 e p < 0) || _)
          rw [ec, decide_eq_true z]
          rfl
        · walk_at "p"
          refine wo_of (ix_at (hvY _) hc) ?_
          walk_at "p"
          refine ⟨?_, rfl⟩
          show _ = (decide (dg0 e p < 0) || decide (1000000000 < dg0 e p))
          rw [ec, decide_eq_false z]
          rfl
      · walk_at "p"
        exact ⟨rfl, rfl⟩
    · obtain ⟨p, hp, rfl⟩ := List.mem_map.mp hy
      rfl
    have eb : (((sk e).map pD).filter fun y => match y with | .tup [.int a, .int b] => decide (dg0 e (a, b) < 0) || decide (1000000000 < dg0 e (a, b)) | _ => false).map id = (badL e).map pD := by
      rw [List.map_id]
      unfold badL
      rw [List.filter_map]
      rfl
    rw [eb]
    walk_at "p"
    unfold b_law_due_3
    walk_at "p"
    refine fnlN_dl (Nat.le_refl _) (at_n _) ?_
    rw [take_app rfl]
    exact q e kk kl2 all
end
end CL
set_option maxHeartbeats 4000000
namespace CL
open PySem L2 CT
local macro_rules | `(tactic| walk_at "w") => `(tactic| first | ((with_reducible apply gR); first | with_reducible refine w_var rfl ?_ | with_reducible apply w_cons | with_reducible apply w_c | with_reducible apply w_nil | with_reducible apply w_op | with_reducible apply w_ap | with_reducible apply w_call | with_reducible apply w_tst | with_reducible apply w_un | with_reducible apply w_tand | with_reducible apply w_tor | with_reducible apply w_tnot | with_reducible apply w_yes | with_reducible apply w_and | with_reducible apply w_or | with_reducible apply w_not | with_reducible apply w_if | with_reducible apply w_chain | with_reducible apply w_isi | with_reducible apply w_isi2 | with_reducible apply w_prop | with_reducible apply w_meth | with_reducible apply w_dget | with_reducible apply w_dnewF | with_reducible apply w_dnewT | with_reducible apply w_part | with_reducible apply w_noPart | with_reducible apply w_slLF | with_reducible apply w_slA | with_reducible apply w_ok | with_reducible apply w_ofO | with_reducible apply w_lcI | with_reducible apply w_seqI | with_reducible apply w_rng1 | with_reducible apply w_rng2 | with_reducible apply w_enum) | ((with_reducible apply gO); first | with_reducible apply wo_add | with_reducible apply wo_sub | with_reducible apply wo_lt | with_reducible apply wo_gt | with_reducible apply wo_eq | with_reducible apply wo_ne | with_reducible apply wo_le | with_reducible apply wo_ge | with_reducible apply wo_neg | with_reducible apply wo_eqS | with_reducible apply wo_neS | with_reducible apply wo_min | with_reducible apply wo_max | with_reducible apply wo_int | with_reducible apply wo_abs | with_reducible apply wo_tupL | with_reducible apply wo_tupT | with_reducible refine wo_tup (by with_unfolding_all rfl) ?_ | with_reducible refine wo_lstF (by with_unfolding_all rfl) ?_ | with_reducible refine wo_lstT (by with_unfolding_all rfl) ?_ | with_reducible apply wo_fld0 | with_reducible apply wo_fld1 | with_reducible apply wo_fld2 | with_reducible apply wo_fldW0 | with_reducible apply wo_fldW1 | with_reducible apply wo_fldW2) | ((with_reducible apply gS); first | with_reducible apply w_seq | with_reducible apply w_asg | with_reducible apply w_sif | with_reducible apply w_next | with_reducible apply w_ret | with_reducible apply w_par | with_reducible apply w_drop | with_reducible apply w_asgT | with_reducible apply w_retN | with_reducible apply w_brk | with_reducible apply w_cnt | with_reducible apply w_raise | with_reducible apply w_forI) | ((with_reducible apply gI); first | with_reducible apply wI_t | with_reducible apply wI_f | with_reducible apply wI_not) | with_reducible apply w_bl | with_reducible apply thn_nx | with_reducible apply w_int | with_reducible apply w_obj | with_reducible apply thn_rt | with_reducible apply lp_nx | with_reducible apply fnl_int | with_reducible apply fnl_bl | with_reducible apply fnl_non | with_reducible apply fnl_str | with_reducible apply fnl_nx | with_reducible apply thn_bk | with_reducible apply thn_ct | with_reducible apply thn_xc | with_reducible apply lp_rt | with_reducible apply lp_bk | with_reducible apply lp_xc | with_reducible apply w_itL | with_reducible apply w_itT | with_reducible apply w_itK)
local macro_rules | `(tactic| walk_at "p") => `(tactic| repeat walk_at "w")
/-! Q1t: draws told backwards. -/
theorem To.get {i j : Nat} {C C' : Store} (h : To i C C') (hj : j ≠ i) : C'[j]? = C[j]? := by
  obtain ⟨x, rfl, _⟩ := h
  rw [List.getElem?_set_ne (Ne.symm hj)]
end CL
set_option maxHeartbeats 4000000
namespace CL
open PySem L2 CT
local macro_rules | `(tactic| walk_at "w") => `(tactic| first | ((with_reducible apply gR); first | with_reducible refine w_var rfl ?_ | with_reducible apply w_cons | with_reducible apply w_c | with_reducible apply w_nil | with_reducible apply w_op | with_reducible apply w_ap | with_reducible apply w_call | with_reducible apply w_tst | with_reducible apply w_un | with_reducible apply w_tand | with_reducible apply w_tor | with_reducible apply w_tnot | with_reducible apply w_yes | with_reducible apply w_and | with_reducible apply w_or | with_reducible apply w_not | with_reducible apply w_if | with_reducible apply w_chain | with_reducible apply w_isi | with_reducible apply w_isi2 | with_reducible apply w_prop | with_reducible apply w_meth | with_reducible apply w_dget | with_reducible apply w_dnewF | with_reducible apply w_dnewT | with_reducible apply w_part | with_reducible apply w_noPart | with_reducible apply w_slLF | with_reducible apply w_slA | with_reducible apply w_ok | with_reducible apply w_ofO | with_reducible apply w_lcI | with_reducible apply w_seqI | with_reducible apply w_rng1 | with_reducible apply w_rng2 | with_reducible apply w_enum) | ((with_reducible apply gO); first | with_reducible apply wo_add | with_reducible apply wo_sub | with_reducible apply wo_lt | with_reducible apply wo_gt | with_reducible apply wo_eq | with_reducible apply wo_ne | with_reducible apply wo_le | with_reducible apply wo_ge | with_reducible apply wo_neg | with_reducible apply wo_eqS | with_reducible apply wo_neS | with_reducible apply wo_min | with_reducible apply wo_max | with_reducible apply wo_int | with_reducible apply wo_abs | with_reducible apply wo_tupL | with_reducible apply wo_tupT | with_reducible refine wo_tup (by with_unfolding_all rfl) ?_ | with_reducible refine wo_lstF (by with_unfolding_all rfl) ?_ | with_reducible refine wo_lstT (by with_unfolding_all rfl) ?_ | with_reducible apply wo_fld0 | with_reducible apply wo_fld1 | with_reducible apply wo_fld2 | with_reducible apply wo_fldW0 | with_reducible apply wo_fldW1 | with_reducible apply wo_fldW2) | ((with_reducible apply gS); first | with_reducible apply w_seq | with_reducible apply w_asg | with_reducible apply w_sif | with_reducible apply w_next | with_reducible apply w_ret | with_reducible apply w_par | with_reducible apply w_drop | with_reducible apply w_asgT | with_reducible apply w_retN | with_reducible apply w_brk | with_reducible apply w_cnt | with_reducible apply w_raise | with_reducible apply w_forI) | ((with_reducible apply gI); first | with_reducible apply wI_t | with_reducible apply wI_f | with_reducible apply wI_not) | with_reducible apply w_bl | with_reducible apply thn_nx | with_reducible apply w_int | with_reducible apply w_obj | with_reducible apply thn_rt | with_reducible apply lp_nx | with_reducible apply fnl_int | with_reducible apply fnl_bl | with_reducible apply fnl_non | with_reducible apply fnl_str | with_reducible apply fnl_nx | with_reducible apply thn_bk | with_reducible apply thn_ct | with_reducible apply thn_xc | with_reducible apply lp_rt | with_reducible apply lp_bk | with_reducible apply lp_xc | with_reducible apply w_itL | with_reducible apply w_itT | with_reducible apply w_itK)
local macro_rules | `(tactic| walk_at "p") => `(tactic| repeat walk_at "w")
/-! Q2: plain data that can be shown and compared; rows judged. -/
structure Gd (w dp : Nat) (x : D) (p : PyData) : Prop where
  tp : ∀ C, toP C x = some p
  cl : p.canLay0 = true
  sh : p.showable = true
  nd : p.hasDict = false
  ls : p.leavesShort 40 = true
  dp : p.depth ≤ dp
  wt : p.weight ≤ w
structure GdL (w dp : Nat) (xs : List D) (ps : List PyData) : Prop where
  tp : ∀ C, toPs C xs = some ps
  cl : PyData.canLayAll0 ps = true
  sh : PyData.showableAll ps = true
  nd : PyData.hasDictAll ps = false
  ls : PyData.leavesShortAll 40 ps = true
  dp : PyData.depthAll ps ≤ dp
  wt : PyData.weightAll ps ≤ xs.length * (w + 1)
  len : ps.length = xs.length
theorem gdl_nil {w dp : Nat} : GdL w dp [] [] := ⟨fun _ => rfl, rfl, rfl, rfl, rfl, by simp [PyData.depthAll], by simp [PyData.weightAll], rfl⟩
theorem gdl_cons {w dp : Nat} {x : D} {p : PyData} {xs : List D} {ps : List PyData} (h : Gd w dp x p) (t : GdL w dp xs ps) : GdL w dp (x :: xs) (p :: ps) := by
  refine ⟨fun C => ?_, ?_, ?_, ?_, ?_, ?_, ?_, ?_⟩
  · simp only [toPs, h.tp, t.tp]
  · simp [PyData.canLayAll0, h.cl, t.cl]
  · simp [PyData.showableAll, h.sh, t.sh]
  · simp [PyData.hasDictAll, h.nd, t.nd]
  · simp [PyData.leavesShortAll, h.ls, t.ls]
  · have h1 := h.dp
    have h2 := t.dp
    simp only [PyData.depthAll]
    omega
  · have h1 := h.wt
    have h2 := t.wt
    simp only [PyData.weightAll, List.length_cons, Nat.succ_mul]
    omega
  · simp [t.len]
theorem gd_tup {w dp n : Nat} {xs : List D} {ps : List PyData} (h : GdL w dp xs ps) (hn : xs.length ≤ n) : Gd (n * (w + 1)) (dp + 1) (.tup xs) (.tuple ps) := by
  refine ⟨fun C => ?_, ?_, ?_, ?_, ?_, ?_, ?_⟩
  · simp only [toP, h.tp, Option.map_some]
  · simpa [PyData.canLay0] using h.cl
  · simpa [PyData.showable] using h.sh
  · simpa [PyData.hasDict] using h.nd
  · simpa [PyData.leavesShort] using h.ls
  · have := h.dp
    simp only [PyData.depth]
    omega
  · have := h.wt
    have z : xs.length * (w + 1) ≤ n * (w + 1) := Nat.mul_le_mul_right _ hn
    simp only [PyData.weight]
    omega
theorem Gd.mono {w w' dp dp' : Nat} {x : D} {p : PyData} (h : Gd w dp x p) (hw : w ≤ w') (hd : dp ≤ dp') : Gd w' dp' x p := ⟨h.tp, h.cl, h.sh, h.nd, h.ls, Nat.le_trans h.dp hd, Nat.le_trans h.wt hw⟩
theorem Gd.ok {w dp : Nat} {x : D} {p : PyData} (h : Gd w dp x p) (hw : w ≤ 300000) (hd : dp ≤ 60) : repOk p = true := by
  have h4 := PyData.shown_le 40 (by decide) p h.ls
  have h5 := h.wt
  have h6 := h.dp
  have hz : p.shown.length ≤ 16777216 := by omega
  have hd' : p.depth ≤ 60 := by omega
  simp [repOk, h.sh, h.nd, hd', szN, hz]
theorem Gd.repr {w dp : Nat} {x : D} {p : PyData} (h : Gd w dp x p) (hw : w ≤ 300000) (hd : dp ≤ 60) (C : Store) : oRepr [x] C = some (.str p.shown, C) := repr_of (h.tp C) (h.ok hw hd)
theorem gd_int {i : Int} (h : i.natAbs < 1000000000000) : Gd 40 0 (.int i) (.int i) := by
  have h1 := sm_ok (.int i) (by simpa [sm] using h)
  have h' : i.natAbs < 10 ^ 12 := h
  refine ⟨fun _ => rfl, rfl, h1.1, rfl, ?_, by simp [PyData.depth], wt_int h⟩
  have := PyData.shown_int_le h'
  simp only [PyData.leavesShort, decide_eq_true_eq]
  omega
end CL
set_option maxHeartbeats 4000000
namespace CL
open PySem L2 CT
local macro_rules | `(tactic| walk_at "w") => `(tactic| first | ((with_reducible apply gR); first | with_reducible refine w_var rfl ?_ | with_reducible apply w_cons | with_reducible apply w_c | with_reducible apply w_nil | with_reducible apply w_op | with_reducible apply w_ap | with_reducible apply w_call | with_reducible apply w_tst | with_reducible apply w_un | with_reducible apply w_tand | with_reducible apply w_tor | with_reducible apply w_tnot | with_reducible apply w_yes | with_reducible apply w_and | with_reducible apply w_or | with_reducible apply w_not | with_reducible apply w_if | with_reducible apply w_chain | with_reducible apply w_isi | with_reducible apply w_isi2 | with_reducible apply w_prop | with_reducible apply w_meth | with_reducible apply w_dget | with_reducible apply w_dnewF | with_reducible apply w_dnewT | with_reducible apply w_part | with_reducible apply w_noPart | with_reducible apply w_slLF | with_reducible apply w_slA | with_reducible apply w_ok | with_reducible apply w_ofO | with_reducible apply w_lcI | with_reducible apply w_seqI | with_reducible apply w_rng1 | with_reducible apply w_rng2 | with_reducible apply w_enum) | ((with_reducible apply gO); first | with_reducible apply wo_add | with_reducible apply wo_sub | with_reducible apply wo_lt | with_reducible apply wo_gt | with_reducible apply wo_eq | with_reducible apply wo_ne | with_reducible apply wo_le | with_reducible apply wo_ge | with_reducible apply wo_neg | with_reducible apply wo_eqS | with_reducible apply wo_neS | with_reducible apply wo_min | with_reducible apply wo_max | with_reducible apply wo_int | with_reducible apply wo_abs | with_reducible apply wo_tupL | with_reducible apply wo_tupT | with_reducible refine wo_tup (by with_unfolding_all rfl) ?_ | with_reducible refine wo_lstF (by with_unfolding_all rfl) ?_ | with_reducible refine wo_lstT (by with_unfolding_all rfl) ?_ | with_reducible apply wo_fld0 | with_reducible apply wo_fld1 | with_reducible apply wo_fld2 | with_reducible apply wo_fldW0 | with_reducible apply wo_fldW1 | with_reducible apply wo_fldW2) | ((with_reducible apply gS); first | with_reducible apply w_seq | with_reducible apply w_asg | with_reducible apply w_sif | with_reducible apply w_next | with_reducible apply w_ret | with_reducible apply w_par | with_reducible apply w_drop | with_reducible apply w_asgT | with_reducible apply w_retN | with_reducible apply w_brk | with_reducible apply w_cnt | with_reducible apply w_raise | with_reducible apply w_forI) | ((with_reducible apply gI); first | with_reducible apply wI_t | with_reducible apply wI_f | with_reducible apply wI_not) | with_reducible apply w_bl | with_reducible apply thn_nx | with_reducible apply w_int | with_reducible apply w_obj | with_reducible apply thn_rt | with_reducible apply lp_nx | with_reducible apply fnl_int | with_reducible apply fnl_bl | with_reducible apply fnl_non | with_reducible apply fnl_str | with_reducible apply fnl_nx | with_reducible apply thn_bk | with_reducible apply thn_ct | with_reducible apply thn_xc | with_reducible apply lp_rt | with_reducible apply lp_bk | with_reducible apply lp_xc | with_reducible apply w_itL | with_reducible apply w_itT | with_reducible apply w_itK)
local macro_rules | `(tactic| walk_at "p") => `(tactic| repeat walk_at "w")
/-! GDT: what was told, shown. -/
theorem gd_une : Gd 500 0 (.str "unequal") (.str "unequal") := ⟨fun _ => rfl, by decide +kernel, by decide +kernel, rfl, by decide +kernel, by decide +kernel, by decide +kernel⟩
theorem gd_many : Gd 500 0 (.str "many") (.str "many") := ⟨fun _ => rfl, by decide +kernel, by decide +kernel, rfl, by decide +kernel, by decide +kernel, by decide +kernel⟩
theorem gd_few : Gd 500 0 (.str "few") (.str "few") := ⟨fun _ => rfl, by decide +kernel, by decide +kernel, rfl, by decide +kernel, by decide +kernel, by decide +kernel⟩
theorem gd_two {w dp : Nat} {x y : D} {p r : PyData} (hx : Gd w dp x p) (hy : Gd w dp y r) : Gd (2 * (w + 1)) (dp + 1) (.tup [x, y]) (.tuple [p, r]) := gd_tup (gdl_cons hx (gdl_cons hy gdl_nil)) (Nat.le_refl _)
theorem gd_ints {a b : Int} (ha : a.natAbs < 1000000000000) (hb : b.natAbs < 1000000000000) : Gd 500 1 (.tup [.int a, .int b]) (.tuple [.int a, .int b]) := (gd_two (gd_int ha) (gd_int hb)).mono (by decide) (by decide)
theorem gd_unem {a b : Int} (ha : a.natAbs < 1000000000000) (hb : b.natAbs < 1000000000000) : Gd 2000 5 (.tup [.str "unequal", .tup [.int a, .int b]]) (.tuple [.str "unequal", .tuple [.int a, .int b]]) := (gd_two (gd_une.mono (Nat.le_refl _) (by decide)) (gd_ints ha hb)).mono (by decide) (by decide)
theorem gd_manym {a : Int} (ha : a.natAbs < 1000000000000) : Gd 2000 5 (.tup [.str "many", .int a]) (.tuple [.str "many", .int a]) := (gd_two gd_many ((gd_int ha).mono (by decide) (Nat.le_refl _))).mono (by decide) (by decide)
theorem gd_fewm {p : Int × Int} (ha : p.1.natAbs < 1000000000000) (hb : p.2.natAbs < 1000000000000) : Gd 2000 5 (.tup [.str "few", pD p]) (.tuple [.str "few", .tuple [.int p.1, .int p.2]]) := (gd_two (gd_few.mono (Nat.le_refl _) (by decide)) (gd_ints ha hb)).mono (by decide) (by decide)
end CL
set_option maxHeartbeats 4000000
/-! M14: _law_web_is, its loop. -/
namespace CL
open PySem L2 CT
theorem aug_at {C : Store} {fl : Nat} {sl : List (Option D)} {G : List Int} {io iv k : Nat} {n g : Int} (h4 : sl[4]? = some (some (.cell C.length))) (hi : sl[io]? = some (some (.int (k : Int)))) (hv : sl[iv]? = some (some (.int n))) (hg : G[k]? = some g) (hf : fl ≤ C.length) :
    sAugL (· + ·) (mVar 4) (mVar io) (mVar iv) ⟨fl, sl⟩ (C ++ [some (.lst (G.map .int))]) = .nx sl (C ++ [some (.lst ((G.set k (g + n)).map .int))]) := by
  have hk : k < G.length := (List.getElem?_eq_some_iff.mp hg).1
  have at_n : ∀ c : Option Cell, (C ++ [c])[C.length]? = some c := fun c => by simp
  have e1 : cL (.cell C.length) (C ++ [some (.lst (G.map .int))]) = some (C.length, G.map .int) := by simp only [cL, at_n]
  have e2 : (G.map D.int)[((k : Nat) : Int).toNat]? = some (.int g) := by simp [hg]
  have e3 : ixN (G.map D.int).length ((k : Nat) : Int) = some k := by simp [ixN, hk]
  have e4 : wr fl C.length (.lst ((G.map D.int).set k (.int (g + n)))) (C ++ [some (.lst (G.map .int))]) = some (C ++ [some (.lst ((G.set k (g + n)).map .int))]) := by
    unfold wr
    rw [if_neg (fun h => by omega)]
    simp [List.map_set]
  rw [ev_augL, ev_var, h4, getV_some, auK_ok, ev_var, hi, getV_some, auK1_ok]
  have e5 : auK2 (· + ·) (mVar iv) ⟨fl, sl⟩ (.cell C.length) (.int (k : Int)) (C ++ [some (.lst (G.map .int))]) = auK3 (· + ·) ⟨fl, sl⟩ (.cell C.length) (k : Int) g (mVar iv ⟨fl, sl⟩ (C ++ [some (.lst (G.map .int))])) := by
    unfold auK2
    rw [e1]
    simp only
    rw [if_pos (by omega), e2]
  rw [e5, ev_var, hv, getV_some, auK3_ok]
  unfold auK4
  rw [e1]
  simp only
  rw [e3]
  simp only
  rw [e4]
end CL
set_option maxHeartbeats 4000000
/-! M13: _law_web_is, its first parts. -/
namespace CL
open PySem L2 CT
section
variable {N : Nat} {d : Dc} {C : Store} {x : D}
theorem due_lc (h : DOk N d) (hx : ∀ Y, vD x (C ++ Y) = some (dcK d, dcV d)) {w : D} : mLc false (mSeq (mAp (oSortD false) (mCons (mVar 2) mNil))) (Tgt.tp [5, 6]).M (mTst (mOp oGt (mOp oDIx (mVar 2) (mAp oTup (mCons (mVar 5) (mCons (mVar 6) mNil)))) (mC (.int 0)))) (mAp oTup (mCons (mVar 5) (mCons (mVar 6) (mCons (mOp oDIx (mVar 2) (mAp oTup (mCons (mVar 5) (mCons (mVar 6) mNil)))) mNil)))) [5, 6]
    ⟨C.length, [some w, some (.int N), some x, none, none, none, none, none, none]⟩ C = .ok (.lst ((tiesL N (dg0 d)).map triD)) C := by
  have hx0 : vD x C = some (dcK d, dcV d) := by have := hx []; rwa [List.append_nil] at this
  have hz : (sk d).length ≤ 900 := by
    rw [(sk_perm d).length_eq, List.length_map]
    exact h.l
  have e := ev_lc (pure_C ((sk d).map pD)) (mi := mSeq (mAp (oSortD false) (mCons (mVar 2) mNil))) (g := (Tgt.tp [5, 6]).M) (tt := mTst (mOp oGt (mOp oDIx (mVar 2) (mAp oTup (mCons (mVar 5) (mCons (mVar 6) mNil)))) (mC (.int 0)))) (te := mAp oTup (mCons (mVar 5) (mCons (mVar 6) (mCons (mOp oDIx (mVar 2) (mAp oTup (mCons (mVar 5) (mCons (mVar 6) mNil)))) mNil)))) (vs := [5, 6])
    (F := ⟨C.length, [some w, some (.int N), some x, none, none, none, none, none, none]⟩) (C := C) (dPos d) (dTri d) (ev_seqI (d := .lst ((sk d).map pD)) (by simp [sort_dc hx0]) rfl) (by rw [List.length_map]; omega)
    (fun y hy => by
      obtain ⟨p, hp, rfl⟩ := List.mem_map.mp hy
      obtain ⟨_, _, _, n, hn⟩ := h.key hp
      have e0 : dg0 d p = n := by unfold dg0; rw [hn]; rfl
      refine ⟨[some w, some (.int N), some x, none, none, some (.int p.1), some (.int p.2), none, none], by simp [pD], fun acc => ?_⟩
      have ei : oDIx x (.tup [.int p.1, .int p.2]) (C ++ [some (Cell.lst acc)]) = some (.int n, C ++ [some (Cell.lst acc)]) := ix_at (hx _) hn
      exact ⟨by simp [oTup, szN, ei, dPos, pD, e0], fun _ => by simp [oTup, szN, ei, dTri, pD, triD, e0]⟩)
    (fun y hy _ => by
      obtain ⟨p, hp, rfl⟩ := List.mem_map.mp hy
      rfl)
  have el : ((((sk d).map pD).filter (dPos d)).map (dTri d)) = (tiesL N (dg0 d)).map triD := by
    rw [List.filter_map, List.map_map]
    unfold tiesL
    rw [← ties_eq h, List.map_map]
    rfl
  rw [el] at e
  exact e
theorem web_is_1 (h : DOk N d) (hx : ∀ Y, vD x (C ++ Y) = some (dcK d, dcV d)) {w : D} : b_law_web_is_1 ⟨C.length, [some w, some (.int N), some x, none, none, none, none, none, none]⟩ C =
    .nx [some w, some (.int N), some x, some (.tup ((tiesL N (dg0 d)).map triD)), some (.cell C.length), none, none, none, none] (C ++ [some (.lst ((degOf N []).map .int))]) := by
  have a1 : mAp oTupOf (mCons (mLc false (mSeq (mAp (oSortD false) (mCons (mVar 2) mNil))) (Tgt.tp [5, 6]).M (mTst (mOp oGt (mOp oDIx (mVar 2) (mAp oTup (mCons (mVar 5) (mCons (mVar 6) mNil)))) (mC (.int 0)))) (mAp oTup (mCons (mVar 5) (mCons (mVar 6) (mCons (mOp oDIx (mVar 2) (mAp oTup (mCons (mVar 5) (mCons (mVar 6) mNil)))) mNil)))) [5, 6]) mNil)
      ⟨C.length, [some w, some (.int N), some x, none, none, none, none, none, none]⟩ C = .ok (.tup ((tiesL N (dg0 d)).map triD)) C := by
    rw [ev_ap, ev_cons, due_lc h hx, consK_ok, ev_nil, consK2_ok, apK_ok]
    generalize (tiesL N (dg0 d)).map triD = l
    rfl
  have a2 : mOp (oRep true) (mAp (oLst false) (mCons (mC (.int 0)) mNil)) (mVar 1) ⟨C.length, [some w, some (.int N), some x, none, none, none, none, none, none]⟩ C = .ok (.cell C.length) (C ++ [some (.lst ((degOf N []).map .int))]) := by
    have eL : oLst false [.int 0] C = some (.lst [.int 0], C) := by simp [oLst, szN, mkL]
    rw [ev_op, ev_ap, ev_cons, ev_c, consK_ok, ev_nil, consK2_ok, apK_ok, eL, ev_ofO_some, opK_ok, ev_var]
    show opK2 (oRep true) (.lst [.int 0]) (.ok (.int N) C) = _
    rw [opK2_ok, rep_cell h.n, ev_ofO_some]
  rw [b_law_web_is_1, ev_par, ev_cons, a1, consK_ok, ev_cons, a2, consK_ok, ev_nil, consK2_ok, consK2_ok, parK_ok]
  generalize (tiesL N (dg0 d)).map triD = l
  generalize (degOf N []).map D.int = l2
  rfl
end
end CL
set_option maxHeartbeats 4000000
/-! M15: _law_web_is, the loop over the ties. -/
namespace CL
open PySem L2 CT
section
variable {N : Nat} {C : Store} {x w : D} {f : Int × Int → Int}
theorem deg_get {N k : Nat} {L : List T3} (h : k < N) : (degOf N L)[k]? = some (degT L k) := by simp [degOf, h]
theorem web_is_2 : ∃ s5 s6 s7, b_law_web_is_2 ⟨C.length, [some w, some (.int N), some x, some (.tup ((tiesL N f).map triD)), some (.cell C.length), none, none, none, none]⟩ (C ++ [some (.lst ((degOf N []).map .int))]) =
    .nx [some w, some (.int N), some x, some (.tup ((tiesL N f).map triD)), some (.cell C.length), s5, s6, s7, none] (C ++ [some (.lst ((degOf N (tiesL N f)).map .int))]) := by
  rw [b_law_web_is_2, ev_for, ev_seqI (d := .tup ((tiesL N f).map triD)) (it := itC ((tiesL N f).map triD)) (by simp) rfl, forK_ok]
  obtain ⟨sl', C', h1, h2⟩ := loop_list (pure_C ((tiesL N f).map triD)) (g := (Tgt.tp [5, 6, 7]).M) (body := sSeq b_law_web_is_2b_0 b_law_web_is_2b_1) (fl := C.length)
    (fun j sl St => St = C ++ [some (.lst ((degOf N ((tiesL N f).take j)).map .int))] ∧ ∃ s5 s6 s7, sl = [some w, some (.int N), some x, some (.tup ((tiesL N f).map triD)), some (.cell C.length), s5, s6, s7, none])
    (fun j y sl St hy hi => by
      obtain ⟨rfl, s5, s6, s7, rfl⟩ := hi
      rw [List.getElem?_map, Option.map_eq_some_iff] at hy
      obtain ⟨t, ht, rfl⟩ := hy
      have hm : t ∈ tiesL N f := List.mem_of_getElem? ht
      obtain ⟨u, v, huv, hv, _, rfl⟩ := mem_ties.mp hm
      have hu : u < N := by omega
      have hj : j < (tiesL N f).length := (List.getElem?_eq_some_iff.mp ht).1
      have tk : (tiesL N f).take (j + 1) = (tiesL N f).take j ++ [((u : Int), (v : Int), f ((u : Int), (v : Int)))] := by
        rw [← (List.getElem?_eq_some_iff.mp ht).2]
        exact (List.take_append_getElem hj).symm
      refine ⟨[some w, some (.int N), some x, some (.tup ((tiesL N f).map triD)), some (.cell C.length), some (.int u), some (.int v), some (.int (f ((u : Int), (v : Int)))), none], [some w, some (.int N), some x, some (.tup ((tiesL N f).map triD)), some (.cell C.length), some (.int u), some (.int v), some (.int (f ((u : Int), (v : Int)))), none],
        C ++ [some (.lst ((degOf N ((tiesL N f).take (j + 1))).map .int))], by simp [triD], ?_, rfl, _, _, _, rfl⟩
      rw [ev_seq, b_law_web_is_2b_0, aug_at (k := u) (n := f ((u : Int), (v : Int))) rfl rfl rfl (deg_get hu) (Nat.le_refl _), seqK_nx, b_law_web_is_2b_1,
        aug_at (k := v) (n := f ((u : Int), (v : Int))) (g := degT ((tiesL N f).take j) v) rfl rfl rfl (by
          rw [List.getElem?_set_ne (by omega)]
          exact deg_get hv) (Nat.le_refl _), deg_step hu hv (by omega), tk])
    (sl := [some w, some (.int N), some x, some (.tup ((tiesL N f).map triD)), some (.cell C.length), none, none, none, none]) (C := C ++ [some (.lst ((degOf N []).map .int))]) ⟨rfl, _, _, _, rfl⟩
  obtain ⟨rfl, s5, s6, s7, rfl⟩ := h2
  refine ⟨s5, s6, s7, ?_⟩
  rw [h1, List.length_map, List.take_length]
end
end CL
set_option maxHeartbeats 4000000
/-! M7: degrees. -/
namespace CL
open PySem L2 CT
section
variable {N M : Nat} {f g : Int × Int → Int} {C : Store}
theorem degrees_ok (h : N ≤ 60) : m_Web_degrees [webD N f] C = .ok (.tup (((rowsOf N f).map List.sum).map .int)) C := by
  have hl : (rowsOf N f).length = N := by simp [rowsOf]
  have e : mLc false (mSeq (mUn (oFld 0 1) (mVar 0))) (Tgt.nm 1).M tYesM (mAp oSum (mCons (mVar 1) mNil)) [1] ⟨C.length, [some (webD N f), none]⟩ C = .ok (.lst (((rowsOf N f).map List.sum).map .int)) C := by
    have e := ev_lc (pure_C ((rowsOf N f).map fun r => D.lst (r.map .int))) (mi := mSeq (mUn (oFld 0 1) (mVar 0))) (g := (Tgt.nm 1).M) (tt := tYesM) (te := mAp oSum (mCons (mVar 1) mNil)) (vs := [1]) (F := ⟨C.length, [some (webD N f), none]⟩) (C := C) (fun _ => true) sumD
      (ev_seqI (d := gridD (rowsOf N f)) (by simp [webD]) rfl) (by rw [List.length_map]; omega)
      (fun x hx => by
        obtain ⟨r, _, rfl⟩ := List.mem_map.mp hx
        exact ⟨[some (webD N f), some (.lst (r.map .int))], by simp, fun acc => ⟨rfl, fun _ => by simp [sum_ints, sumD]⟩⟩)
      (fun x hx _ => by
        obtain ⟨r, _, rfl⟩ := List.mem_map.mp hx
        simp [sumD, cb])
    rw [e, filter_yes, List.map_map, List.map_map]
    congr 2
    apply List.map_congr_left
    intro r _
    simp [sumD]
  rw [e_Web_degrees, b_Web_degrees, ev_sret, ev_ap, ev_cons, e]
  have cI := cbL_ints C.length ((rowsOf N f).map List.sum)
  rw [List.map_map] at cI
  simp [oTupOf, vL, fin, fz, cb, cI]
end
end CL
set_option maxHeartbeats 4000000
/-! M7: total, degrees, within, changed, crossing. -/
namespace CL
open PySem L2 CT
section
variable {N M : Nat} {f g : Int × Int → Int} {C : Store}
theorem total_ok (h : N ≤ 60) : m_Web_total [webD N f] C = .ok (.int ((tiesL N f).map (·.2.2)).sum) C := by
  have e : mLc false (mSeq (mUn (oFld 0 2) (mVar 0))) (Tgt.tp [1, 2, 3]).M tYesM (mVar 3) [1, 2, 3] ⟨C.length, [some (webD N f), none, none, none]⟩ C = .ok (.lst (((tiesL N f).map (·.2.2)).map .int)) C := by
    have e := ev_lc (pure_C ((tiesL N f).map triD)) (mi := mSeq (mUn (oFld 0 2) (mVar 0))) (g := (Tgt.tp [1, 2, 3]).M) (tt := tYesM) (te := mVar 3) (vs := [1, 2, 3]) (F := ⟨C.length, [some (webD N f), none, none, none]⟩) (C := C) (fun _ => true) thirdD
      (ev_seqI (d := .tup ((tiesL N f).map triD)) (by simp [webD]) rfl) (by rw [List.length_map]; have := ties_len (f := f) h; omega)
      (fun x hx => by
        obtain ⟨t, _, rfl⟩ := List.mem_map.mp hx
        exact ⟨[some (webD N f), some (.int t.1), some (.int t.2.1), some (.int t.2.2)], by simp [triD], fun acc => ⟨rfl, fun _ => by simp [triD, thirdD]⟩⟩)
      (fun x hx _ => by
        obtain ⟨t, _, rfl⟩ := List.mem_map.mp hx
        rfl)
    rw [e, filter_yes, List.map_map, List.map_map]
    rfl
  rw [e_Web_total, b_Web_total, ev_sret, ev_ap, ev_cons, e]
  simp only [consK_ok, ev_nil, consK2_ok, apK_ok, sum_ints, ev_ofO_some, retK_ok, finS_rt, fin_int, List.take_length]
end
end CL
set_option maxHeartbeats 4000000
/-! M17: _law_web_is says True of the web of a dict. -/
namespace CL
open PySem L2 CT
section
variable {N : Nat} {C St : Store} {x : D} {f : Int × Int → Int}
theorem web_is_3 (hN : N ≤ 60) (h0 : ∀ p, 0 ≤ f p) (hd : ∀ a : Int, f (a, a) = 0) {fl : Nat} {s3 s4 s5 s6 s7 : Option D} : b_law_web_is_3 ⟨fl, [some (webD N f), some (.int N), some x, s3, s4, s5, s6, s7, none]⟩ St =
    .nx [some (webD N f), some (.int N), some x, s3, s4, s5, s6, s7, some (toldD N f)] St := by
  have a1 : mUn (oFld 0 0) (mVar 0) ⟨fl, [some (webD N f), some (.int N), some x, s3, s4, s5, s6, s7, none]⟩ St = .ok (.int N) St := by simp [webD]
  have a2 : mUn (oFld 0 2) (mVar 0) ⟨fl, [some (webD N f), some (.int N), some x, s3, s4, s5, s6, s7, none]⟩ St = .ok (.tup ((tiesL N f).map triD)) St := by simp [webD]
  have a3 : mProp 0 m_Web_total (mVar 0) ⟨fl, [some (webD N f), some (.int N), some x, s3, s4, s5, s6, s7, none]⟩ St = .ok (.int ((tiesL N f).map (·.2.2)).sum) St := by
    rw [ev_prop]
    exact prpK_ok 0 m_Web_total _ St (total_ok hN)
  have a4 : mProp 0 m_Web_degrees (mVar 0) ⟨fl, [some (webD N f), some (.int N), some x, s3, s4, s5, s6, s7, none]⟩ St = .ok (.tup ((degOf N (tiesL N f)).map .int)) St := by
    rw [ev_prop, ← deg_rows h0 hd]
    exact prpK_ok 0 m_Web_degrees _ St (degrees_ok hN)
  rw [b_law_web_is_3, ev_asg, ev_ap, ev_cons, a1, consK_ok, ev_cons, a2, consK_ok, ev_cons, a3, consK_ok, ev_cons, a4, consK_ok, ev_nil, consK2_ok, consK2_ok, consK2_ok, consK2_ok, apK_ok]
  have eL : ∀ a b c e : D, oLst false [a, b, c, e] St = some (.lst [a, b, c, e], St) := fun a b c e => by simp [oLst, szN, mkL]
  rw [eL, ev_ofO_some, asgK_ok]
  unfold toldD
  generalize (tiesL N f).map triD = l
  generalize (degOf N (tiesL N f)).map D.int = l2
  generalize ((tiesL N f).map (·.2.2)).sum = m
  rfl
theorem web_is_4 {fl : Nat} {w : D} {s5 s6 s7 : Option D} {p : PyData} (ep : ∀ Y, toP Y (toldD N f) = some p) (hp : repOk p = true) :
    b_law_web_is_4 ⟨fl, [some w, some (.int N), some x, some (.tup ((tiesL N f).map triD)), some (.cell C.length), s5, s6, s7, some (toldD N f)]⟩ (C ++ [some (.lst ((degOf N (tiesL N f)).map .int))]) = .rt (.bl true) (C ++ [some (.lst ((degOf N (tiesL N f)).map .int))]) := by
  have at_n : ∀ c : Option Cell, (C ++ [c])[C.length]? = some c := fun c => by simp
  have er := repr_of (ep (C ++ [some (.lst ((degOf N (tiesL N f)).map .int))])) hp
  have hv : vL (.cell C.length) (C ++ [some (.lst ((degOf N (tiesL N f)).map .int))]) = some ((degOf N (tiesL N f)).map .int) := by simp only [vL, at_n]
  have es : oSum [.cell C.length] (C ++ [some (.lst ((degOf N (tiesL N f)).map .int))]) = some (.int (2 * ((tiesL N f).map (·.2.2)).sum), C ++ [some (.lst ((degOf N (tiesL N f)).map .int))]) := by
    simp only [oSum, hv, Option.bind_some, dInts_map, Option.map_some, two_total]
  have et : oTupOf [.cell C.length] (C ++ [some (.lst ((degOf N (tiesL N f)).map .int))]) = some (.tup ((degOf N (tiesL N f)).map .int), C ++ [some (.lst ((degOf N (tiesL N f)).map .int))]) := by
    simp only [oTupOf, hv, Option.map_some]
  have ed : ∀ T : Int, 2 * T / 2 = T := fun T => by omega
  have e2 : ∀ Y, oLst false [.int N, .tup ((tiesL N f).map triD), .int ((tiesL N f).map (·.2.2)).sum, .tup ((degOf N (tiesL N f)).map .int)] Y = some (toldD N f, Y) := fun Y => by simp [oLst, szN, mkL, toldD]
  simp only [b_law_web_is_4, ev_sret, ev_op, ev_ap, ev_cons, ev_nil, ev_c, ev_var, List.getElem?_cons_succ, List.getElem?_cons_zero, getV_some, consK_ok, consK2_ok, apK_ok, er, ev_ofO_some, opK_ok, opK2_ok, es, ev_div _ (show (0 : Int) < 2 by decide) (show (2 : Int) < 4611686018427387904 by decide), ed, et, e2, ev_eqS, decide_true, retK_ok]
end
end CL
set_option maxHeartbeats 4000000
/-! M21: _law_web_is, joined. -/
namespace CL
open PySem L2 CT
section
variable {N : Nat} {d : Dc} {C : Store} {x : D}
theorem web_is_0 {fl : Nat} {f : Int × Int → Int} {sl : List (Option D)} (h : sl[0]? = some (some (webD N f))) : b_law_web_is_0 ⟨fl, sl⟩ C = .nx sl C := by
  simp [b_law_web_is_0, h, webD, isi, tyD]
theorem web_is_ok (h : DOk N d) (hx : ∀ Y, vD x (C ++ Y) = some (dcK d, dcV d)) : m_law_web_is [webD N (dg0 d), .int N, x] C = .ok (.bl true) C := by
  obtain ⟨s5, s6, s7, e2⟩ := web_is_2 (N := N) (C := C) (x := x) (w := webD N (dg0 d)) (f := dg0 d)
  rw [e_law_web_is, b_law_web_is, ev_seq, web_is_0 rfl, seqK_nx, ev_seq, web_is_1 h hx, seqK_nx, ev_seq, e2, seqK_nx, ev_seq, web_is_3 h.n (fun p => (h.f p).1) h.diag, seqK_nx, web_is_4 (fun Y => told_P Y) (told_rep h), finS_rt, CT.fin_bl]
  congr 1
  simp
end
end CL
set_option maxHeartbeats 4000000
namespace CL
open PySem L2 CT
local macro_rules | `(tactic| walk_at "w") => `(tactic| first | ((with_reducible apply gR); first | with_reducible refine w_var rfl ?_ | with_reducible apply w_cons | with_reducible apply w_c | with_reducible apply w_nil | with_reducible apply w_op | with_reducible apply w_ap | with_reducible apply w_call | with_reducible apply w_tst | with_reducible apply w_un | with_reducible apply w_tand | with_reducible apply w_tor | with_reducible apply w_tnot | with_reducible apply w_yes | with_reducible apply w_and | with_reducible apply w_or | with_reducible apply w_not | with_reducible apply w_if | with_reducible apply w_chain | with_reducible apply w_isi | with_reducible apply w_isi2 | with_reducible apply w_prop | with_reducible apply w_meth | with_reducible apply w_dget | with_reducible apply w_dnewF | with_reducible apply w_dnewT | with_reducible apply w_part | with_reducible apply w_noPart | with_reducible apply w_slLF | with_reducible apply w_slA | with_reducible apply w_ok | with_reducible apply w_ofO | with_reducible apply w_lcI | with_reducible apply w_seqI | with_reducible apply w_rng1 | with_reducible apply w_rng2 | with_reducible apply w_enum) | ((with_reducible apply gO); first | with_reducible apply wo_add | with_reducible apply wo_sub | with_reducible apply wo_lt | with_reducible apply wo_gt | with_reducible apply wo_eq | with_reducible apply wo_ne | with_reducible apply wo_le | with_reducible apply wo_ge | with_reducible apply wo_neg | with_reducible apply wo_eqS | with_reducible apply wo_neS | with_reducible apply wo_min | with_reducible apply wo_max | with_reducible apply wo_int | with_reducible apply wo_abs | with_reducible apply wo_tupL | with_reducible apply wo_tupT | with_reducible refine wo_tup (by with_unfolding_all rfl) ?_ | with_reducible refine wo_lstF (by with_unfolding_all rfl) ?_ | with_reducible refine wo_lstT (by with_unfolding_all rfl) ?_ | with_reducible apply wo_fld0 | with_reducible apply wo_fld1 | with_reducible apply wo_fld2 | with_reducible apply wo_fldW0 | with_reducible apply wo_fldW1 | with_reducible apply wo_fldW2) | ((with_reducible apply gS); first | with_reducible apply w_seq | with_reducible apply w_asg | with_reducible apply w_sif | with_reducible apply w_next | with_reducible apply w_ret | with_reducible apply w_par | with_reducible apply w_drop | with_reducible apply w_asgT | with_reducible apply w_retN | with_reducible apply w_brk | with_reducible apply w_cnt | with_reducible apply w_raise | with_reducible apply w_forI) | ((with_reducible apply gI); first | with_reducible apply wI_t | with_reducible apply wI_f | with_reducible apply wI_not) | with_reducible apply w_bl | with_reducible apply thn_nx | with_reducible apply w_int | with_reducible apply w_obj | with_reducible apply thn_rt | with_reducible apply lp_nx | with_reducible apply fnl_int | with_reducible apply fnl_bl | with_reducible apply fnl_non | with_reducible apply fnl_str | with_reducible apply fnl_nx | with_reducible apply thn_bk | with_reducible apply thn_ct | with_reducible apply thn_xc | with_reducible apply lp_rt | with_reducible apply lp_bk | with_reducible apply lp_xc | with_reducible apply w_itL | with_reducible apply w_itT | with_reducible apply w_itK)
local macro_rules | `(tactic| walk_at "p") => `(tactic| repeat walk_at "w")
/-! TA3: _law_right (k23). -/
section
variable {N M l l' fl : Nat} {d S e : Dc} {m n s : Int} {p q : Int × Int} {x : D} {C : Store} {Q : D → Store → Prop} {X : Exc → Store → Prop} {F : Fr} {P : RS → Prop}
abbrev dTD (d : Dc) : D := .dT (dcK d) (dcV d)
theorem bad_few' (hd : DOk M d) (hS : DOk M S) (hk : KOk M e) (all : dg0 e = fun p => dg0 d p + (-1) * dg0 S p) : (badL e).head? = fewP M (dg0 d) (dg0 S) := by
  have e : badL e = (pairsL M).filter fun p => decide (dg0 d p < dg0 S p) := by
    refine uniq2 ((sk_strict hk.nd).sublist List.filter_sublist) ((pairs_sorted M).sublist List.filter_sublist) fun p => ?_
    unfold badL
    rw [List.mem_filter, List.mem_filter, all]
    simp only [Bool.or_eq_true, decide_eq_true_eq]
    have a := hd.f p
    have b := hS.f p
    constructor
    · rintro ⟨h1, h2⟩
      exact ⟨(hk.key h1).1, by omega⟩
    · rintro ⟨h1, h2⟩
      refine ⟨Classical.byContradiction fun z => ?_, by omega⟩
      have := dg0_nk z
      rw [all] at this
      simp only at this
      omega
  rw [e, List.head?_filter]
  rfl
theorem ne_pairs (l : List (Int × Int)) (C : Store) : oEqA true (.lst (l.map pD)) (.lst []) C = some (.bl (!decide (l = [])), C) := by
  have l1 := lay_pQ l
  have tp : toP C (.lst (l.map pD)) = some (.list (l.map pQ)) := by simp only [toP, toPs_pQ, Option.map_some]
  have sh : SeqAt.shaped (.list (l.map pQ)) = true := by
    have hd : (PyData.list (l.map pQ)).depth ≤ 64 := by
      simp only [PyData.depth]
      omega
    simp only [SeqAt.shaped, PyData.canLay0, l1.1, decide_eq_true hd, Bool.and_self]
  have t2 : toP C (.lst []) = some (.list []) := rfl
  have s2 : SeqAt.shaped (.list []) = true := rfl
  show oEqD true _ _ C = _
  simp only [oEqD, tp, t2, sh, s2, Bool.and_self, if_true, PyData.eqv]
  cases l with
  | nil => simp [PyData.eqvAll]
  | cons p l => simp [PyData.eqvAll]
/-- the last three rows, nothing out of bounds -/
theorem last_ok {s1 s2 s4 s5 : Option D} (hk : KOk N e) (hl : e.length ≤ 900) (hb : badL e = []) (x0 : oIx x (.int 0) C = some (.int N, C)) (q : P (.rt (.bl true) C)) :
    wS (sSeq b_law_right_3 (sSeq b_law_right_4 b_law_right_5) ⟨fl, [some (.int m), s1, s2, some x, s4, s5, some (.tup [.str "web", webD N (dg0 e)]), some (dTD e), some (.lst ((badL e).map pD))]⟩ C) P := by
  walk_at "p"
  unfold b_law_right_3
  walk_at "p"
  refine wo_of (ne_pairs _ _) ?_
  walk_at "p"
  refine wI_dt hb ?_
  walk_at "p"
  unfold b_law_right_4
  walk_at "p"
  refine wo_of (ne_pairs _ _) ?_
  walk_at "p"
  refine wI_dt hb ?_
  walk_at "p"
  unfold b_law_right_5
  walk_at "p"
  refine wo_ix (xs := [.str "web", webD N (dg0 e)]) (k := 0) rfl rfl rfl ?_
  walk_at "p"
  refine wI_dt rfl ?_
  walk_at "p"
  refine wo_ix (xs := [.str "web", webD N (dg0 e)]) (k := 1) rfl rfl rfl ?_
  walk_at "p"
  refine wo_of x0 ?_
  walk_at "p"
  refine w_of (web_is_ok (d := e) (hk.dok hb hl) (fun _ => rfl)) ?_
  walk_at "p"
  exact q
/-- too many -/
theorem last_many {s1 s2 s4 s5 : Option D} (hm : m ≠ 1) (hb : badL e ≠ []) (q : P (.rt (.bl true) C)) :
    wS (sSeq b_law_right_3 (sSeq b_law_right_4 b_law_right_5) ⟨fl, [some (.int m), s1, s2, some x, s4, s5, some (.tup [.str "many", .int 1000000000]), some (dTD e), some (.lst ((badL e).map pD))]⟩ C) P := by
  have rp := fun C => (gd_manym (a := 1000000000) (by decide)).repr (by decide) (by decide) C
  walk_at "p"
  unfold b_law_right_3
  walk_at "p"
  refine wo_of (ne_pairs _ _) ?_
  walk_at "p"
  refine wI_df hb ?_
  walk_at "p"
  refine wI_df hm ?_
  walk_at "p"
  unfold b_law_right_4
  walk_at "p"
  refine wo_of (ne_pairs _ _) ?_
  walk_at "p"
  refine wI_df hb ?_
  walk_at "p"
  refine wo_of (rp _) ?_
  walk_at "p"
  refine wo_of (rp _) ?_
  walk_at "p"
  rw [decide_eq_true rfl]
  exact q
/-- too few -/
theorem last_few {s1 s2 s4 s5 : Option D} (hm : m = 1) (hb : (badL e).head? = some p) (pb : p.1.natAbs < 1000000000000 ∧ p.2.natAbs < 1000000000000) (q : P (.rt (.bl true) C)) :
    wS (sSeq b_law_right_3 (sSeq b_law_right_4 b_law_right_5) ⟨fl, [some (.int m), s1, s2, some x, s4, s5, some (.tup [.str "few", pD p]), some (dTD e), some (.lst ((badL e).map pD))]⟩ C) P := by
  have rp := fun C => (gd_fewm (p := p) pb.1 pb.2).repr (by decide) (by decide) C
  obtain ⟨L, hL⟩ : ∃ L, badL e = p :: L := by
    cases h : badL e with
    | nil => rw [h] at hb; cases hb
    | cons y L => rw [h] at hb; cases hb; exact ⟨L, rfl⟩
  walk_at "p"
  unfold b_law_right_3
  walk_at "p"
  refine wo_of (ne_pairs _ _) ?_
  walk_at "p"
  refine wI_df (by rw [hL]; simp) ?_
  walk_at "p"
  refine wI_dt hm ?_
  walk_at "p"
  refine wo_of (rp _) ?_
  walk_at "p"
  refine wo_ix (xs := (badL e).map pD) (k := 0) rfl rfl (d := pD p) (by rw [hL]; rfl) ?_
  walk_at "p"
  refine wo_of (rp _) ?_
  walk_at "p"
  rw [decide_eq_true rfl]
  exact q
theorem mid01 {s1 s2 s6 s7 s8 : Option D} (hm : m = 0 ∨ m = 1) (hd : DOk N d) (hS : DOk N S) (hl : d.length + S.length < 64) (x0 : oIx x (.int 0) C = some (.int N, C)) (x1 : oIx x (.int 1) C = some (.int N, C))
    (h : ∀ e, KOk N e → e.length ≤ 900 → dg0 e = (fun p => dg0 d p + (1 - 2 * m) * dg0 S p) → wS (sSeq b_law_right_3 (sSeq b_law_right_4 b_law_right_5) ⟨fl, [some (.int m), s1, s2, some x, some (.lst [dTD d, dTD S]), some (.int n), s6, some (dTD e), some (.lst ((badL e).map pD))]⟩ C) P) :
    wS (sSeq b_law_right_1 (sSeq b_law_right_2 (sSeq b_law_right_3 (sSeq b_law_right_4 b_law_right_5))) ⟨fl, [some (.int m), s1, s2, some x, some (.lst [dTD d, dTD S]), some (.int n), s6, s7, s8]⟩ C) P := by
  have h2 : m < 2 := by omega
  walk_at "p"
  unfold b_law_right_1
  walk_at "p"
  refine wI_dt h2 ?_
  walk_at "p"
  refine wo_of x0 ?_
  walk_at "p"
  refine wo_of x1 ?_
  walk_at "p"
  refine wI_dt rfl ?_
  walk_at "p"
  unfold b_law_right_2
  walk_at "p"
  refine wI_dt h2 ?_
  walk_at "p"
  refine w_asgT ?_
  walk_at "p"
  refine wo_ix (xs := [dTD d, dTD S]) (k := 0) rfl rfl rfl ?_
  walk_at "p"
  refine wo_ix (xs := [dTD d, dTD S]) (k := 1) rfl rfl rfl ?_
  walk_at "p"
  refine wo_mul (by
    simp only [cMul, Bool.or_eq_true, Bool.and_eq_true, decide_eq_true_eq]
    exact .inl ⟨by omega, by omega⟩) ?_
  walk_at "p"
  refine due_w hd hS hl (by omega) fun e ke le all => ?_
  walk_at "p"
  refine ⟨_, _, rfl, rfl, ?_⟩
  refine CT.thn_nx ?_
  exact h e ke (by omega) all
theorem mid23 {s1 s2 s6 s7 s8 : Option D} (hm : m = 2 ∨ m = 3) (hd : DOk N d) (hl : d.length < 64) (n0 : 0 ≤ n) (n1 : n ≤ 1000000000)
    (h : ∀ e, KOk N e → e.length ≤ 900 → dg0 e = (fun p => dg0 d p * n) → wS (sSeq b_law_right_3 (sSeq b_law_right_4 b_law_right_5) ⟨fl, [some (.int m), s1, s2, some x, some (.lst [dTD d, dTD S]), some (.int n), s6, some (dTD e), some (.lst ((badL e).map pD))]⟩ C) P) :
    wS (sSeq b_law_right_1 (sSeq b_law_right_2 (sSeq b_law_right_3 (sSeq b_law_right_4 b_law_right_5))) ⟨fl, [some (.int m), s1, s2, some x, some (.lst [dTD d, dTD S]), some (.int n), s6, s7, s8]⟩ C) P := by
  have h2 : ¬ m < 2 := by omega
  walk_at "p"
  unfold b_law_right_1
  walk_at "p"
  refine wI_df h2 ?_
  walk_at "p"
  unfold b_law_right_2
  walk_at "p"
  refine wI_df h2 ?_
  walk_at "p"
  refine w_asgT ?_
  walk_at "p"
  refine wo_ix (xs := [dTD d, dTD S]) (k := 0) rfl rfl rfl ?_
  walk_at "p"
  refine due_w (d := []) (S := d) (N := N) (DOk.nil hd.n) hd (by simpa using hl) (by omega) fun e ke le all => ?_
  walk_at "p"
  refine ⟨_, _, rfl, rfl, ?_⟩
  refine CT.thn_nx ?_
  refine h e ke (by simp only [List.length_nil] at le; omega) ?_
  rw [all]
  funext p
  show (0 : Int) + _ = _
  rw [Int.zero_add, Int.mul_comm]
theorem right_w (hm : m = 0 ∨ m = 1 ∨ m = 2 ∨ m = 3) (hd : DOk N d) (hS : DOk M S) (hl : d.length + S.length < 64) (n0 : 0 ≤ n) (n1 : n ≤ 1000000000)
    (x0 : oIx x (.int 0) C = some (.int N, C)) (x1 : oIx x (.int 1) C = some (.int M, C)) (q : Q (.bl true) C) :
    wR (m_law_right [.int m, webD N (dg0 d), webD M (dg0 S), x, .lst [dTD d, dTD S], .int n] C) Q X := by
  have fin : fnl C.length Q X (.rt (.bl true) C) := fnl_p rfl (by rw [List.take_length]; exact q)
  have fd := hd.f
  have fS := hS.f
  rw [e_law_right]
  apply w_fin
  unfold b_law_right b_law_right_0
  walk_at "p"
  refine done_w hm hd.fok hS.fok n0 (fun hne h => ?_) (fun hN h b => ?_) (fun hN h p b => ?_) (fun h b => ?_) (fun hN h b => ?_) (fun hN h b => ?_) (fun h b => ?_)
  · refine CT.thn_nx ?_
    have rp := fun C => (gd_unem (a := N) (b := M) (by have := hd.n; omega) (by have := hS.n; omega)).repr (by decide) (by decide) C
    have h2 : m < 2 := by omega
    have ne : ¬ ((N : Int) = M) := by omega
    walk_at "p"
    unfold b_law_right_1
    walk_at "p"
    refine wI_dt h2 ?_
    walk_at "p"
    refine wo_of x0 ?_
    walk_at "p"
    refine wo_of x1 ?_
    walk_at "p"
    refine wI_df ne ?_
    walk_at "p"
    refine wo_of (rp _) ?_
    walk_at "p"
    refine wo_of x0 ?_
    walk_at "p"
    refine wo_of x1 ?_
    walk_at "p"
    refine wo_of (rp _) ?_
    walk_at "p"
    rw [decide_eq_true rfl, List.take_length]
    exact q
  · subst hN
    refine CT.thn_nx ?_
    refine mid01 (.inl h) hd hS hl x0 x1 fun e ke le all => ?_
    refine last_many (by omega) (fun z => ?_) fin
    obtain ⟨p, hp⟩ := b
    have := (bad_nil.mp z p).2
    rw [all, h] at this
    simp only at this
    omega
  · subst hN
    refine CT.thn_nx ?_
    refine mid01 (.inr h) hd hS hl x0 x1 fun e ke le all => ?_
    have b' := b
    unfold fewP at b'
    have pm := mem_pairsI.mp (List.mem_of_find?_eq_some b')
    have hn := hd.n
    refine last_few h ?_ (by omega) fin
    rw [← b]
    refine bad_few' hd hS ke ?_
    rw [all, h]
    rfl
  · refine CT.thn_nx ?_
    refine mid23 h hd (by omega) n0 n1 fun e ke le all => ?_
    refine last_many (by omega) (fun z => ?_) fin
    obtain ⟨p, hp⟩ := b
    have := (bad_nil.mp z p).2
    rw [all] at this
    simp only at this
    omega
  · subst hN
    refine CT.thn_nx ?_
    refine mid01 (.inl h) hd hS hl x0 x1 fun e ke le all => ?_
    have e2 : (fun k => dg0 d k + dg0 S k) = dg0 e := by
      rw [all, h]
      funext p
      show _ = dg0 d p + 1 * dg0 S p
      rw [Int.one_mul]
    rw [e2]
    refine last_ok ke le (bad_nil.mpr fun p => ?_) x0 fin
    rw [← e2]
    have := fd p
    have := fS p
    have := b p
    simp only
    omega
  · subst hN
    refine CT.thn_nx ?_
    refine mid01 (.inr h) hd hS hl x0 x1 fun e ke le all => ?_
    have all1 : dg0 e = fun p => dg0 d p + (-1) * dg0 S p := by
      rw [all, h]
      rfl
    have e2 : (fun k => dg0 d k - dg0 S k) = dg0 e := by
      rw [all1]
      funext p
      show _ = dg0 d p + (-1) * dg0 S p
      omega
    rw [e2]
    refine last_ok ke le ?_ x0 fin
    have hh := bad_few' hd hS ke all1
    rw [b] at hh
    exact List.head?_eq_none_iff.mp hh
  · refine CT.thn_nx ?_
    refine mid23 h hd (by omega) n0 n1 fun e ke le all => ?_
    rw [← all]
    refine last_ok ke le (bad_nil.mpr fun p => ?_) x0 fin
    rw [all]
    refine ⟨Int.mul_nonneg (fd p).1 n0, b p⟩
end
end CL
set_option maxHeartbeats 4000000
/-! E8: a comprehension that may draw, whose list is an own one. -/
namespace CT
open PySem L2
theorem vS_lst {i : Nat} {xs : List D} {C : Store} (e : C[i]? = some (some (.lst xs))) : vS (.cell i) C = some xs := by simp only [vS, e]
section
variable {C : Store} {Q : D → Store → Prop} {X : Exc → Store → Prop} {F : Fr}
theorem lcO_o {it : ItD} {xs : List D} {g : MG} {tt : MT} {te : ME} {vs : List Nat} {S : Store → Prop} (p : ItOn S it xs) (J : Nat → List D → Store → Prop) (hS : ∀ j acc C, J j acc C → S C) (hz : ∀ j acc C, J j acc C → acc.length < 16777216)
    (i0 : J 0 [] (C ++ [some (.lst [])]))
    (step : ∀ j x acc C', xs[j]? = some x → C'[C.length]? = some (some (.lst acc)) → J j acc C' → ∃ sl1, g x (wipeD F.sl vs) = some sl1 ∧ wR (tt ⟨C.length, sl1⟩ C') (fun b C2 => wI b (wR (te ⟨C.length, sl1⟩ C2) (fun y C3 => ∃ acc', C3[C.length]? = some (some (.lst acc')) ∧ acc'.length < 16777216 ∧ J (j + 1) (acc' ++ [y]) (C3.set C.length (some (.lst (acc' ++ [y])))) ∧ C.length < C3.length) noX) (∃ acc', C2[C.length]? = some (some (.lst acc')) ∧ J (j + 1) acc' C2)) noX)
    (fin : ∀ acc C', C'[C.length]? = some (some (.lst acc)) → J xs.length acc C' → Q (.cell C.length) C') : wR (mLc true (fun _ C => .ok it C) g tt te vs F C) Q X := by
  obtain ⟨acc, C', e, c, i⟩ := lc_w p J hS hz step it.n 0 [] (C ++ [some (.lst [])]) (by rw [p.n]; omega) (by simp) i0
  have f2 := fin acc C' c i
  unfold mLc
  simp only [bnd_ok]
  rw [e]
  simp only [bn0_ok]
  unfold lcEnd
  rw [if_pos rfl]
  exact w_ok f2
end
end CT
set_option maxHeartbeats 4000000
namespace CL
open PySem L2 CT
/-! SI: ints sorted. -/
def sI (ns : List Int) : List Int := ns.mergeSort fun a b => decide (a ≤ b)
end CL
set_option maxHeartbeats 4000000
namespace CL
open PySem L2 CT
local macro_rules | `(tactic| walk_at "w") => `(tactic| first | ((with_reducible apply gR); first | with_reducible refine w_var rfl ?_ | with_reducible apply w_cons | with_reducible apply w_c | with_reducible apply w_nil | with_reducible apply w_op | with_reducible apply w_ap | with_reducible apply w_call | with_reducible apply w_tst | with_reducible apply w_un | with_reducible apply w_tand | with_reducible apply w_tor | with_reducible apply w_tnot | with_reducible apply w_yes | with_reducible apply w_and | with_reducible apply w_or | with_reducible apply w_not | with_reducible apply w_if | with_reducible apply w_chain | with_reducible apply w_isi | with_reducible apply w_isi2 | with_reducible apply w_prop | with_reducible apply w_meth | with_reducible apply w_dget | with_reducible apply w_dnewF | with_reducible apply w_dnewT | with_reducible apply w_part | with_reducible apply w_noPart | with_reducible apply w_slLF | with_reducible apply w_slA | with_reducible apply w_ok | with_reducible apply w_ofO | with_reducible apply w_lcI | with_reducible apply w_seqI | with_reducible apply w_rng1 | with_reducible apply w_rng2 | with_reducible apply w_enum) | ((with_reducible apply gO); first | with_reducible apply wo_add | with_reducible apply wo_sub | with_reducible apply wo_lt | with_reducible apply wo_gt | with_reducible apply wo_eq | with_reducible apply wo_ne | with_reducible apply wo_le | with_reducible apply wo_ge | with_reducible apply wo_neg | with_reducible apply wo_eqS | with_reducible apply wo_neS | with_reducible apply wo_min | with_reducible apply wo_max | with_reducible apply wo_int | with_reducible apply wo_abs | with_reducible apply wo_tupL | with_reducible apply wo_tupT | with_reducible refine wo_tup (by with_unfolding_all rfl) ?_ | with_reducible refine wo_lstF (by with_unfolding_all rfl) ?_ | with_reducible refine wo_lstT (by with_unfolding_all rfl) ?_ | with_reducible apply wo_fld0 | with_reducible apply wo_fld1 | with_reducible apply wo_fld2 | with_reducible apply wo_fldW0 | with_reducible apply wo_fldW1 | with_reducible apply wo_fldW2) | ((with_reducible apply gS); first | with_reducible apply w_seq | with_reducible apply w_asg | with_reducible apply w_sif | with_reducible apply w_next | with_reducible apply w_ret | with_reducible apply w_par | with_reducible apply w_drop | with_reducible apply w_asgT | with_reducible apply w_retN | with_reducible apply w_brk | with_reducible apply w_cnt | with_reducible apply w_raise | with_reducible apply w_forI) | ((with_reducible apply gI); first | with_reducible apply wI_t | with_reducible apply wI_f | with_reducible apply wI_not) | with_reducible apply w_bl | with_reducible apply thn_nx | with_reducible apply w_int | with_reducible apply w_obj | with_reducible apply thn_rt | with_reducible apply lp_nx | with_reducible apply fnl_int | with_reducible apply fnl_bl | with_reducible apply fnl_non | with_reducible apply fnl_str | with_reducible apply fnl_nx | with_reducible apply thn_bk | with_reducible apply thn_ct | with_reducible apply thn_xc | with_reducible apply lp_rt | with_reducible apply lp_bk | with_reducible apply lp_xc | with_reducible apply w_itL | with_reducible apply w_itT | with_reducible apply w_itK)
local macro_rules | `(tactic| walk_at "p") => `(tactic| repeat walk_at "w")
/-! TA4: the law k23, law_true. -/
theorem tot_sub {k : Int × Int} : ∀ {L L' : List T3}, L'.Sublist L → (∀ t ∈ L, 0 ≤ t.2.2) → tot L' k ≤ tot L k
  | _, _, .slnil, _ => Int.le_refl _
  | t :: L, L', .cons _ h, hn => by
    have ih := tot_sub (k := k) h fun s hs => hn s (List.mem_cons_of_mem _ hs)
    have := hn t (List.mem_cons_self ..)
    rw [tot_cons]
    split <;> omega
  | t :: L, _ :: L', .cons₂ _ h, hn => by
    have ih := tot_sub (k := k) h fun s hs => hn s (List.mem_cons_of_mem _ hs)
    rw [tot_cons, tot_cons]
    split <;> omega
theorem ItOk.sub {N : Nat} {L L' : List T3} (h : ItOk N L) (s : L'.Sublist L) : ItOk N L' := ⟨fun t ht => h.v t (s.mem ht), fun k => Int.le_trans (tot_sub s fun t ht => (h.v t ht).2.2.2.2.2.1) (h.s k)⟩
theorem fits_of {N : Nat} {L : List T3} (hN : N ≤ 60) (h : ItOk N L) (hl : L.length ≤ 1000) : Fits N L := ⟨hN, h.v, by omega, fun u v _ _ => by
  show dg0 (sums L) _ ≤ _
  rw [dg0_sums]
  exact h.s _⟩
section
variable {C Y Z : Store} {Q : D → Store → Prop} {X : Exc → Store → Prop} {F : Fr} {P : RS → Prop} {N M k l : Nat} {f : Int × Int → Int} {d : Dc} {c : Option Cell}
theorem take_y {i : Nat} {n : Int} (hB : Bg i C) (hn : 0 < n) (hn2 : n < 4611686018427387904) (Y : Store) (h : ∀ r C', 0 ≤ r → r < n → To i C C' → Q (.int r) (C' ++ Y)) : wR (m_law_take [.cell i, .int n] (C ++ Y)) Q X := by
  obtain ⟨r, C', e, r0, r1, t⟩ := take_to hB hn hn2 Y
  exact w_of e (h r C' r0 r1 t)
theorem items_y {i : Nat} (hB : Bg i C) (hN2 : N ≤ 60) {m : Nat} (hm : m ≤ 60) (Y : Store) (h : ∀ (L : List T3) C', To i C C' → ItOk N L → L.length ≤ m → Q (.lst (L.map triD)) (C' ++ Y)) : wR (m_law_items [.cell i, .int N, .int m] (C ++ Y)) Q X := by
  obtain ⟨L, Z, e6, t6, hL, hLl⟩ := items_any (N := N) (m := m) (hB.app Y) hN2 hm
  obtain ⟨C2, rfl, t2⟩ := t6.cut hB.lt
  exact w_of e6 (h L C2 t2 hL hLl)
theorem setLw {fl i j : Nat} {sl : List (Option D)} {me mo mi : ME} (h : wR (me ⟨fl, sl⟩ C) (fun v C1 => wR (mo ⟨fl, sl⟩ C1) (fun o C2 => wR (mi ⟨fl, sl⟩ C2) (fun x C3 => x = .int j ∧ o = .cell i ∧ fl ≤ i ∧ ∃ xs, C3[i]? = some (some (.lst xs)) ∧ j < xs.length ∧ P (.nx sl (C3.set i (some (.lst (xs.set j v)))))) (fun e C => P (.xc e sl C))) (fun e C => P (.xc e sl C))) (fun e C => P (.xc e sl C))) : wS (sSetL me mo mi ⟨fl, sl⟩ C) P := by
  refine w_setL (w_mono h (fun v C1 g => w_mono g (fun o C2 g => w_mono g (fun x C3 g => ?_) fun _ _ z => z) fun _ _ z => z) fun _ _ z => z)
  obtain ⟨rfl, rfl, hi, xs, hx, hj, q⟩ := g
  have e : ixN xs.length (j : Int) = some j := by
    have := ixN_at (n := xs.length) (i := (j : Int)) (by omega) (by omega)
    rw [this]
    congr 1
  exact ⟨(j : Int), i, xs, j, _, rfl, by simp only [cL, hx], e, wr_hi hi, q⟩
/-- the cell behind C (one cell) and Y -/
theorem atY (hc : C.length = 1) : (C ++ (Y ++ c :: Z))[1 + Y.length]? = some c := by
  rw [List.getElem?_append_right (by omega), hc, Nat.add_sub_cancel_left]
  simp
theorem setY {c' : Option Cell} (hc : C.length = 1) : (C ++ (Y ++ c :: Z)).set (1 + Y.length) c' = C ++ (Y ++ c' :: Z) := by
  rw [List.set_append_right _ _ (by omega), hc, Nat.add_sub_cancel_left]
  simp
theorem atY2 {c2 : Option Cell} (hc : C.length = 1) : (C ++ (Y ++ c :: c2 :: Z))[1 + Y.length + 1]? = some c2 := by
  have := atY (C := C) (Y := Y ++ [c]) (c := c2) (Z := Z) hc
  simpa [Nat.add_assoc] using this
theorem setY2 {c2 c' : Option Cell} (hc : C.length = 1) : (C ++ (Y ++ c :: c2 :: Z)).set (1 + Y.length + 1) c' = C ++ (Y ++ c :: c' :: Z) := by
  have := setY (C := C) (Y := Y ++ [c]) (c := c2) (c' := c') (Z := Z) hc
  simpa [Nat.add_assoc] using this
def szs (N M : Nat) : Cell := .lst [.int N, .int M]
def its (L0 L1 : List T3) : Cell := .lst [.lst (L0.map triD), .lst (L1.map triD)]
/-- the four questions -/
theorem four_w {Y : Store} {d S : Dc} {n : Int} {z s2 s4 s8 s10 s11 s12 s13 : Option D} (hc : C.length = 1) (hd : DOk N d) (hS : DOk M S) (hl : d.length + S.length < 64) (n0 : 0 ≤ n) (n1 : n ≤ 1000000000)
    (q : ∀ t10, P (.nx [z, some (.cell 0), s2, some (.cell (1 + Y.length)), s4, some (.lst [dTD d, dTD S]), some (webD N (dg0 d)), some (webD M (dg0 S)), s8, some (.int n), t10, s11, s12, s13] (C ++ (Y ++ some (szs N M) :: Z)))) :
    wS (b_law_1b_8 ⟨0, [z, some (.cell 0), s2, some (.cell (1 + Y.length)), s4, some (.lst [dTD d, dTD S]), some (webD N (dg0 d)), some (webD M (dg0 S)), s8, some (.int n), s10, s11, s12, s13]⟩ (C ++ (Y ++ some (szs N M) :: Z))) P := by
  have vs : vS (.cell (1 + Y.length)) (C ++ (Y ++ some (szs N M) :: Z)) = some [.int N, .int M] := by simp only [vS, atY hc, szs]
  have vl : vL (.cell (1 + Y.length)) (C ++ (Y ++ some (szs N M) :: Z)) = some [.int N, .int M] := by simp only [vL, atY hc, szs]
  have ix0 : oIx (.cell (1 + Y.length)) (.int 0) (C ++ (Y ++ some (szs N M) :: Z)) = some (.int N, C ++ (Y ++ some (szs N M) :: Z)) := by
    obtain ⟨d, C2, e, h1, h2⟩ := (wo_ix (Q := fun d C2 => d = .int N ∧ C2 = C ++ (Y ++ some (szs N M) :: Z)) (i := 0) (k := 0) vs rfl rfl ⟨rfl, rfl⟩).h
    rw [e, h1, h2]
  have ix1 : oIx (.cell (1 + Y.length)) (.int 1) (C ++ (Y ++ some (szs N M) :: Z)) = some (.int M, C ++ (Y ++ some (szs N M) :: Z)) := by
    obtain ⟨d, C2, e, h1, h2⟩ := (wo_ix (Q := fun d C2 => d = .int M ∧ C2 = C ++ (Y ++ some (szs N M) :: Z)) (i := 1) (k := 1) vs rfl rfl ⟨rfl, rfl⟩).h
    rw [e, h1, h2]
  generalize C ++ (Y ++ some (szs N M) :: Z) = St at vs vl ix0 ix1 q ⊢
  unfold b_law_1b_8
  walk_at "p"
  refine loop_p (pure_C [.int 0, .int 1, .int 2, .int 3]) (fun j sl S1 => S1 = St ∧ ∃ t10, sl = [z, some (.cell 0), s2, some (.cell (1 + Y.length)), s4, some (.lst [dTD d, dTD S]), some (webD N (dg0 d)), some (webD M (dg0 S)), s8, some (.int n), t10, s11, s12, s13]) ⟨rfl, _, rfl⟩ ?_ ?_
  · rintro j y sl S1 hy ⟨rfl, t10, rfl⟩
    obtain ⟨m, rfl, hm⟩ : ∃ m : Int, y = .int m ∧ (m = 0 ∨ m = 1 ∨ m = 2 ∨ m = 3) := by
      have := List.mem_of_getElem? hy
      simp only [List.mem_cons, List.not_mem_nil, or_false] at this
      rcases this with rfl | rfl | rfl | rfl
      · exact ⟨0, rfl, .inl rfl⟩
      · exact ⟨1, rfl, .inr (.inl rfl)⟩
      · exact ⟨2, rfl, .inr (.inr (.inl rfl))⟩
      · exact ⟨3, rfl, .inr (.inr (.inr rfl))⟩
    refine ⟨_, rfl, ?_⟩
    unfold b_law_1b_8b_0
    walk_at "p"
    refine right_w hm hd hS hl n0 n1 ix0 ix1 ?_
    walk_at "p"
    unfold b_law_1b_8b_1
    walk_at "p"
    refine w_revLF ?_
    walk_at "p"
    refine ⟨_, vl, ?_⟩
    walk_at "p"
    refine w_revLF ?_
    walk_at "p"
    refine ⟨_, rfl, ?_⟩
    walk_at "p"
    refine right_w (d := S) (S := d) hm hS hd (by omega) n0 n1 rfl rfl ?_
    walk_at "p"
    unfold b_law_1b_8b_2
    walk_at "p"
    refine wo_of ix0 ?_
    walk_at "p"
    refine wo_ix (xs := [dTD d, dTD S]) (k := 0) rfl rfl rfl ?_
    walk_at "p"
    refine w_of (web_is_ok (d := d) hd (fun _ => rfl)) ?_
    walk_at "p"
    refine wo_of ix1 ?_
    walk_at "p"
    refine wo_ix (xs := [dTD d, dTD S]) (k := 1) rfl rfl rfl ?_
    walk_at "p"
    refine w_of (web_is_ok (d := S) hS (fun _ => rfl)) ?_
    walk_at "p"
    exact ⟨rfl, _, rfl⟩
  · rintro sl S1 ⟨rfl, t10, rfl⟩
    exact q _
end
end CL
set_option maxHeartbeats 4000000
namespace CL
open PySem L2 CT
local macro_rules | `(tactic| walk_at "w") => `(tactic| first | ((with_reducible apply gR); first | with_reducible refine w_var rfl ?_ | with_reducible apply w_cons | with_reducible apply w_c | with_reducible apply w_nil | with_reducible apply w_op | with_reducible apply w_ap | with_reducible apply w_call | with_reducible apply w_tst | with_reducible apply w_un | with_reducible apply w_tand | with_reducible apply w_tor | with_reducible apply w_tnot | with_reducible apply w_yes | with_reducible apply w_and | with_reducible apply w_or | with_reducible apply w_not | with_reducible apply w_if | with_reducible apply w_chain | with_reducible apply w_isi | with_reducible apply w_isi2 | with_reducible apply w_prop | with_reducible apply w_meth | with_reducible apply w_dget | with_reducible apply w_dnewF | with_reducible apply w_dnewT | with_reducible apply w_part | with_reducible apply w_noPart | with_reducible apply w_slLF | with_reducible apply w_slA | with_reducible apply w_ok | with_reducible apply w_ofO | with_reducible apply w_lcI | with_reducible apply w_seqI | with_reducible apply w_rng1 | with_reducible apply w_rng2 | with_reducible apply w_enum) | ((with_reducible apply gO); first | with_reducible apply wo_add | with_reducible apply wo_sub | with_reducible apply wo_lt | with_reducible apply wo_gt | with_reducible apply wo_eq | with_reducible apply wo_ne | with_reducible apply wo_le | with_reducible apply wo_ge | with_reducible apply wo_neg | with_reducible apply wo_eqS | with_reducible apply wo_neS | with_reducible apply wo_min | with_reducible apply wo_max | with_reducible apply wo_int | with_reducible apply wo_abs | with_reducible apply wo_tupL | with_reducible apply wo_tupT | with_reducible refine wo_tup (by with_unfolding_all rfl) ?_ | with_reducible refine wo_lstF (by with_unfolding_all rfl) ?_ | with_reducible refine wo_lstT (by with_unfolding_all rfl) ?_ | with_reducible apply wo_fld0 | with_reducible apply wo_fld1 | with_reducible apply wo_fld2 | with_reducible apply wo_fldW0 | with_reducible apply wo_fldW1 | with_reducible apply wo_fldW2) | ((with_reducible apply gS); first | with_reducible apply w_seq | with_reducible apply w_asg | with_reducible apply w_sif | with_reducible apply w_next | with_reducible apply w_ret | with_reducible apply w_par | with_reducible apply w_drop | with_reducible apply w_asgT | with_reducible apply w_retN | with_reducible apply w_brk | with_reducible apply w_cnt | with_reducible apply w_raise | with_reducible apply w_forI) | ((with_reducible apply gI); first | with_reducible apply wI_t | with_reducible apply wI_f | with_reducible apply wI_not) | with_reducible apply w_bl | with_reducible apply thn_nx | with_reducible apply w_int | with_reducible apply w_obj | with_reducible apply thn_rt | with_reducible apply lp_nx | with_reducible apply fnl_int | with_reducible apply fnl_bl | with_reducible apply fnl_non | with_reducible apply fnl_str | with_reducible apply fnl_nx | with_reducible apply thn_bk | with_reducible apply thn_ct | with_reducible apply thn_xc | with_reducible apply lp_rt | with_reducible apply lp_bk | with_reducible apply lp_xc | with_reducible apply w_itL | with_reducible apply w_itT | with_reducible apply w_itK)
local macro_rules | `(tactic| walk_at "p") => `(tactic| repeat walk_at "w")
/-! TA5: k23, one trip. -/
section
variable {C Y Z : Store} {Q : D → Store → Prop} {X : Exc → Store → Prop} {F : Fr} {P : RS → Prop} {N M k l : Nat} {z s2 s3 s4 s5 s6 s7 s8 s9 s10 s11 s12 s13 : Option D}
abbrev lD (L : List T3) : D := .lst (L.map triD)
/-- sums, webs, the questions -/
theorem rest_w {L0 L1 : List T3} (hB : Bg 0 C) (hc : C.length = 1) (hN : N ≤ 5) (hM : M ≤ 5) (h0 : ItOk N L0) (l0 : L0.length ≤ 8) (h1 : ItOk M L1) (l1 : L1.length ≤ 8)
    (q : ∀ C' t5 t6 t7 t8 t9 t10 t11 t12 t13, Bg 0 C' → C'.length = 1 → P (.nx [z, some (.cell 0), s2, some (.cell (1 + Y.length)), some (.cell (1 + Y.length + 1)), t5, t6, t7, t8, t9, t10, t11, t12, t13] (C' ++ (Y ++ [some (szs N M), some (its L0 L1)])))) :
    wS (sSeq b_law_1b_4 (sSeq b_law_1b_5 (sSeq b_law_1b_6 (sSeq b_law_1b_7 b_law_1b_8))) ⟨0, [z, some (.cell 0), s2, some (.cell (1 + Y.length)), some (.cell (1 + Y.length + 1)), s5, s6, s7, s8, s9, s10, s11, s12, s13]⟩ (C ++ (Y ++ [some (szs N M), some (its L0 L1)]))) P := by
  have at1 : ∀ (C' : Store) (h : C'.length = 1), (C' ++ (Y ++ [some (szs N M), some (its L0 L1)]))[1 + Y.length]? = some (some (szs N M)) := fun C' h => atY h
  have at2 : ∀ (C' : Store) (h : C'.length = 1), (C' ++ (Y ++ [some (szs N M), some (its L0 L1)]))[1 + Y.length + 1]? = some (some (its L0 L1)) := fun C' h => atY2 h
  have v1 : ∀ (C' : Store) (h : C'.length = 1), vS (.cell (1 + Y.length)) (C' ++ (Y ++ [some (szs N M), some (its L0 L1)])) = some [.int N, .int M] := fun C' h => vS_lst (at1 C' h)
  have v2 : ∀ (C' : Store) (h : C'.length = 1), vS (.cell (1 + Y.length + 1)) (C' ++ (Y ++ [some (szs N M), some (its L0 L1)])) = some [lD L0, lD L1] := fun C' h => vS_lst (at2 C' h)
  have k0 := sums_ok (N := N) (by omega) h0 (by omega)
  have k1 := sums_ok (N := M) (by omega) h1 (by omega)
  have f0 := fits_of (N := N) (by omega) h0 (by omega)
  have f1 := fits_of (N := M) (by omega) h1 (by omega)
  have n0 : (sums L0).length ≤ 8 := by
    have := sums_len L0 []
    exact Nat.le_trans this (by simp only [List.length_nil]; omega)
  have n1 : (sums L1).length ≤ 8 := by
    have := sums_len L1 []
    exact Nat.le_trans this (by simp only [List.length_nil]; omega)
  walk_at "p"
  unfold b_law_1b_4
  walk_at "p"
  refine w_itC (at2 C hc) ?_
  refine lc_o on_cell (fun j acc S => S = C ++ (Y ++ [some (szs N M), some (its L0 L1)]) ++ [some (.lst acc)] ∧ acc = ([L0, L1].take j).map (fun L => dTD (sums L))) (fun j acc S h => ?_) (fun j acc S h => ?_) ⟨rfl, rfl⟩ (fun j x acc S hx hcl h => ?_) (fun acc S hcl h => ?_)
  · rw [h.1, List.getElem?_append_left (by simp [hc]; omega)]
    exact at2 C hc
  · rw [h.2]
    simp only [List.length_map, List.length_take, List.length_cons, List.length_nil]
    omega
  · obtain ⟨rfl, ha⟩ := h
    obtain ⟨L, hL, rfl⟩ : ∃ L, [L0, L1][j]? = some L ∧ x = lD L := by
      have hx2 : ([L0, L1].map fun L => lD L)[j]? = some x := hx
      rw [List.getElem?_map] at hx2
      obtain ⟨L, h1, h2⟩ := Option.map_eq_some_iff.mp hx2
      exact ⟨L, h1, h2.symm⟩
    have ll : L.length ≤ 8 := by
      have := List.mem_of_getElem? hL
      simp only [List.mem_cons, List.not_mem_nil, or_false] at this
      rcases this with rfl | rfl
      · exact l0
      · exact l1
    refine ⟨_, rfl, w_yes (wI_t ?_)⟩
    walk_at "p"
    refine w_of (law_sums_ok (L := L) (SeqD.seq (.inl rfl)) (by omega)) ?_
    refine ⟨acc, hcl, ?_, ⟨by simp, ?_⟩, by simp⟩
    · rw [ha]
      simp only [List.length_map, List.length_take, List.length_cons, List.length_nil]
      omega
    · rw [take_sn hL, List.map_append, ← ha]
      rfl
  obtain ⟨rfl, ha⟩ := h
  have ha2 : acc = [dTD (sums L0), dTD (sums L1)] := ha
  subst ha2
  rw [take_app rfl]
  refine ⟨by
    show (cbL _ (dcV (sums L0)) && (cbL _ (dcV (sums L1)) && true)) = true
    rw [cbL_dc, cbL_dc]
    rfl, ?_⟩
  walk_at "p"
  unfold b_law_1b_5
  walk_at "p"
  refine w_mkT ?_
  walk_at "p"
  refine wo_ix (k := 0) (v1 C hc) rfl rfl ?_
  walk_at "p"
  refine wo_ix (k := 0) (v2 C hc) rfl rfl ?_
  walk_at "p"
  refine w_of (make_ok (N := N) (L := L0) (d := lD L0) (ds := [.int N, lD L0]) f0 (.inl rfl) rfl rfl) ?_
  walk_at "p"
  refine w_mkT ?_
  walk_at "p"
  refine wo_ix (k := 1) (v1 C hc) rfl rfl ?_
  walk_at "p"
  refine wo_ix (k := 1) (v2 C hc) rfl rfl ?_
  walk_at "p"
  refine w_of (make_ok (N := M) (L := L1) (d := lD L1) (ds := [.int M, lD L1]) f1 (.inl rfl) rfl rfl) ?_
  walk_at "p"
  refine ⟨_, rfl, ?_⟩
  walk_at "p"
  unfold b_law_1b_6
  walk_at "p"
  refine take_y hB (by decide) (by decide) _ fun r C1 r0 r1 t1 => ?_
  have c1 : C1.length = 1 := by rw [t1.len, hc]
  walk_at "p"
  unfold b_law_1b_7
  walk_at "p"
  refine take_y t1.bg (by decide) (by decide) _ fun y C2 y0 y1 t2 => ?_
  have c2 : C2.length = 1 := by rw [t2.len, c1]
  obtain ⟨m, hm, em⟩ := ix_ints (l := [0, 1, 2, 3, 1000000000, 1 + r]) (m := y) (C2 ++ (Y ++ [some (szs N M), some (its L0 L1)])) y0 (by simpa using y1)
  refine wo_of em ?_
  have hm2 : 0 ≤ m ∧ m ≤ 1000000000 := by
    simp only [List.mem_cons, List.not_mem_nil, or_false] at hm
    omega
  walk_at "p"
  exact four_w (d := sums L0) (S := sums L1) c2 k0 k1 (by omega) hm2.1 hm2.2 fun t10 => q C2 _ _ _ _ _ _ _ _ _ t2.bg c2
end
end CL
set_option maxHeartbeats 4000000
namespace CL
open PySem L2 CT
local macro_rules | `(tactic| walk_at "w") => `(tactic| first | ((with_reducible apply gR); first | with_reducible refine w_var rfl ?_ | with_reducible apply w_cons | with_reducible apply w_c | with_reducible apply w_nil | with_reducible apply w_op | with_reducible apply w_ap | with_reducible apply w_call | with_reducible apply w_tst | with_reducible apply w_un | with_reducible apply w_tand | with_reducible apply w_tor | with_reducible apply w_tnot | with_reducible apply w_yes | with_reducible apply w_and | with_reducible apply w_or | with_reducible apply w_not | with_reducible apply w_if | with_reducible apply w_chain | with_reducible apply w_isi | with_reducible apply w_isi2 | with_reducible apply w_prop | with_reducible apply w_meth | with_reducible apply w_dget | with_reducible apply w_dnewF | with_reducible apply w_dnewT | with_reducible apply w_part | with_reducible apply w_noPart | with_reducible apply w_slLF | with_reducible apply w_slA | with_reducible apply w_ok | with_reducible apply w_ofO | with_reducible apply w_lcI | with_reducible apply w_seqI | with_reducible apply w_rng1 | with_reducible apply w_rng2 | with_reducible apply w_enum) | ((with_reducible apply gO); first | with_reducible apply wo_add | with_reducible apply wo_sub | with_reducible apply wo_lt | with_reducible apply wo_gt | with_reducible apply wo_eq | with_reducible apply wo_ne | with_reducible apply wo_le | with_reducible apply wo_ge | with_reducible apply wo_neg | with_reducible apply wo_eqS | with_reducible apply wo_neS | with_reducible apply wo_min | with_reducible apply wo_max | with_reducible apply wo_int | with_reducible apply wo_abs | with_reducible apply wo_tupL | with_reducible apply wo_tupT | with_reducible refine wo_tup (by with_unfolding_all rfl) ?_ | with_reducible refine wo_lstF (by with_unfolding_all rfl) ?_ | with_reducible refine wo_lstT (by with_unfolding_all rfl) ?_ | with_reducible apply wo_fld0 | with_reducible apply wo_fld1 | with_reducible apply wo_fld2 | with_reducible apply wo_fldW0 | with_reducible apply wo_fldW1 | with_reducible apply wo_fldW2) | ((with_reducible apply gS); first | with_reducible apply w_seq | with_reducible apply w_asg | with_reducible apply w_sif | with_reducible apply w_next | with_reducible apply w_ret | with_reducible apply w_par | with_reducible apply w_drop | with_reducible apply w_asgT | with_reducible apply w_retN | with_reducible apply w_brk | with_reducible apply w_cnt | with_reducible apply w_raise | with_reducible apply w_forI) | ((with_reducible apply gI); first | with_reducible apply wI_t | with_reducible apply wI_f | with_reducible apply wI_not) | with_reducible apply w_bl | with_reducible apply thn_nx | with_reducible apply w_int | with_reducible apply w_obj | with_reducible apply thn_rt | with_reducible apply lp_nx | with_reducible apply fnl_int | with_reducible apply fnl_bl | with_reducible apply fnl_non | with_reducible apply fnl_str | with_reducible apply fnl_nx | with_reducible apply thn_bk | with_reducible apply thn_ct | with_reducible apply thn_xc | with_reducible apply lp_rt | with_reducible apply lp_bk | with_reducible apply lp_xc | with_reducible apply w_itL | with_reducible apply w_itT | with_reducible apply w_itK)
local macro_rules | `(tactic| walk_at "p") => `(tactic| repeat walk_at "w")
/-! TA6: k23, law_true. -/
section
variable {C Y Z : Store} {Q : D → Store → Prop} {X : Exc → Store → Prop} {F : Fr} {P : RS → Prop} {N M k l : Nat} {z s2 s3 s4 s5 s6 s7 s8 s9 s10 s11 s12 s13 : Option D}
/-- the items that stay -/
theorem kept_w {L : List T3} (hB : Bg 0 C) (hc : C.length = 1) (hl : L.length ≤ 8) (Y : Store) {sl : List (Option D)} (hs : sl[1]? = some (some (.cell 0))) (hs12 : (wipeD sl [12])[1]? = some (some (.cell 0))) (hn : (wipeD sl [12]).length = 14)
    (q : ∀ L' C', L'.Sublist L → Bg 0 C' → C'.length = 1 → Q (lD L') (C' ++ Y)) :
    wR (lcR (itC (L.map triD)) (Tgt.nm 12).M (mTst (mOp oGt (mCall m_law_take [] (mCons (mVar 1) (mCons (mC (.int 3)) mNil))) (mC (.int 0)))) (mVar 12) [12] ⟨0, sl⟩ (C ++ Y)) Q X := by
  refine lc_o ((pure_C (L.map triD)).on fun _ => True) (fun j acc S => ∃ (C' : Store) (L' : List T3), S = C' ++ (Y ++ [some (.lst acc)]) ∧ Bg 0 C' ∧ C'.length = 1 ∧ acc = L'.map triD ∧ L'.Sublist (L.take j)) (fun _ _ _ _ => trivial) (fun j acc S h => ?_) ⟨C, [], by simp, hB, hc, rfl, List.Sublist.slnil⟩ (fun j x acc S hx hcl h => ?_) (fun acc S hcl h => ?_)
  · obtain ⟨C', L', _, _, _, rfl, hs⟩ := h
    have := hs.length_le
    rw [List.length_take] at this
    rw [List.length_map]
    omega
  · obtain ⟨C', L', rfl, hB', hc', rfl, hsub⟩ := h
    rw [List.getElem?_map] at hx
    obtain ⟨t, ht, rfl⟩ := Option.map_eq_some_iff.mp hx
    have len : (C ++ Y).length = 1 + Y.length := by rw [List.length_append, hc]
    have m12 : 12 < (wipeD sl [12]).length := by omega
    refine ⟨(wipeD sl [12]).set 12 (some (triD t)), rfl, ?_⟩
    have g1 : ((wipeD sl [12]).set 12 (some (triD t)))[1]? = some (some (.cell 0)) := by
      rw [List.getElem?_set_ne (by decide)]
      exact hs12
    have g12 : ((wipeD sl [12]).set 12 (some (triD t)))[12]? = some (some (triD t)) := by
      rw [List.getElem?_set_self m12]
    refine w_tst (w_op (w_call (w_cons (w_var g1 ?_))))
    walk_at "p"
    refine take_y hB' (by decide) (by decide) _ fun r C2 r0 r1 t2 => ?_
    have c2 : C2.length = 1 := by rw [t2.len, hc']
    have at2 : ∀ c : Option Cell, (C2 ++ (Y ++ [c]))[1 + Y.length]? = some c := fun c => atY c2
    have st2 : ∀ c c' : Option Cell, (C2 ++ (Y ++ [c])).set (1 + Y.length) c' = C2 ++ (Y ++ [c']) := fun c c' => setY c2
    walk_at "p"
    have tk := take_sn ht
    refine wI_d (fun _ => w_var g12 ?_) fun _ => ?_
    · rw [len]
      refine ⟨L'.map triD, at2 _, ?_, ⟨C2, L' ++ [t], ?_, t2.bg, c2, by simp, ?_⟩, ?_⟩
      · have := hsub.length_le
        rw [List.length_take] at this
        rw [List.length_map]
        omega
      · rw [st2]
      · rw [tk]
        exact hsub.append (List.Sublist.refl _)
      · simp [c2]
    · rw [len]
      refine ⟨L'.map triD, at2 _, C2, L', rfl, t2.bg, c2, rfl, ?_⟩
      rw [tk]
      exact hsub.trans (List.sublist_append_left _ _)
  · obtain ⟨C', L', rfl, hB', hc', rfl, hsub⟩ := h
    have len : (C ++ Y).length = 1 + Y.length := by rw [List.length_append, hc]
    rw [List.length_map, List.take_length] at hsub
    refine ⟨?_, ?_⟩
    · exact cb_ties _ _
    · rw [len, ← List.append_assoc, take_app (by rw [List.length_append, hc'])]
      exact q L' C' hsub hB' hc'
theorem trip_w (hB : Bg 0 C) (hc : C.length = 1)
    (q : ∀ C' Y' t3 t4 t5 t6 t7 t8 t9 t10 t11 t12 t13, Bg 0 C' → C'.length = 1 → P (.nx [z, some (.cell 0), s2, t3, t4, t5, t6, t7, t8, t9, t10, t11, t12, t13] (C' ++ Y'))) :
    wS (sSeq b_law_1b_0 (sSeq b_law_1b_1 (sSeq b_law_1b_2 (sSeq b_law_1b_3 (sSeq b_law_1b_4 (sSeq b_law_1b_5 (sSeq b_law_1b_6 (sSeq b_law_1b_7 b_law_1b_8))))))) ⟨0, [z, some (.cell 0), s2, s3, s4, s5, s6, s7, s8, s9, s10, s11, s12, s13]⟩ (C ++ Y)) P := by
  walk_at "p"
  unfold b_law_1b_0
  walk_at "p"
  refine take_y hB (by decide) (by decide) _ fun r C1 r0 r1 t1 => ?_
  have c1 : C1.length = 1 := by rw [t1.len, hc]
  obtain ⟨N, rfl⟩ : ∃ N : Nat, r = N := ⟨r.toNat, by omega⟩
  walk_at "p"
  have len1 : (C1 ++ Y).length = 1 + Y.length := by rw [List.length_append, c1]
  rw [len1, List.append_assoc]
  -- the second size
  have two : ∀ (M : Nat) (C2 : Store), M ≤ 5 → Bg 0 C2 → C2.length = 1 → wS (sSeq b_law_1b_2 (sSeq b_law_1b_3 (sSeq b_law_1b_4 (sSeq b_law_1b_5 (sSeq b_law_1b_6 (sSeq b_law_1b_7 b_law_1b_8))))) ⟨0, [z, some (.cell 0), s2, some (.cell (1 + Y.length)), s4, s5, s6, s7, s8, s9, s10, s11, s12, s13]⟩ (C2 ++ (Y ++ [some (szs N M)]))) P := fun M C2 hM hB2 c2 => by
    have at1 : ∀ (C' Z : Store) (h : C'.length = 1), (C' ++ (Y ++ some (szs N M) :: Z))[1 + Y.length]? = some (some (szs N M)) := fun C' Z h => atY h
    have v1 : ∀ (C' Z : Store) (h : C'.length = 1), vS (.cell (1 + Y.length)) (C' ++ (Y ++ some (szs N M) :: Z)) = some [.int N, .int M] := fun C' Z h => vS_lst (at1 C' Z h)
    walk_at "p"
    unfold b_law_1b_2
    walk_at "p"
    refine w_lcO ?_
    walk_at "p"
    refine w_itC (at1 C2 [] c2) ?_
    have len2 : (C2 ++ (Y ++ [some (szs N M)])).length = 1 + Y.length + 1 := by simp [c2]; omega
    refine lcO_o on_cell (fun j acc S => ∃ (C' : Store) (Ls : List (List T3)), S = C' ++ (Y ++ [some (szs N M), some (.lst acc)]) ∧ Bg 0 C' ∧ C'.length = 1 ∧ acc = Ls.map (fun L => lD L) ∧ Ls.length = j ∧ j ≤ 2 ∧ ∀ k L, Ls[k]? = some L → ItOk (if k = 0 then N else M) L ∧ L.length ≤ 8) (fun j acc S h => ?_) (fun j acc S h => ?_) ⟨C2, [], by simp, hB2, c2, rfl, rfl, by decide, by simp⟩ (fun j x acc S hx hcl h => ?_) (fun acc S hcl h => ?_)
    · obtain ⟨C', Ls, rfl, _, h1, _⟩ := h
      exact at1 C' _ h1
    · obtain ⟨C', Ls, rfl, _, h1, rfl, h2, _⟩ := h
      rw [List.length_map]
      omega
    · obtain ⟨C', Ls, rfl, hB', c', rfl, hLj, hj2, hLs⟩ := h
      have hj : j < 2 := (List.getElem?_eq_some_iff.mp hx).1
      obtain ⟨K, rfl, hK, hK5⟩ : ∃ K : Nat, x = .int K ∧ K = (if j = 0 then N else M) ∧ K ≤ 5 := by
        have : j = 0 ∨ j = 1 := by omega
        rcases this with rfl | rfl
        · cases hx
          exact ⟨N, rfl, rfl, by omega⟩
        · cases hx
          exact ⟨M, rfl, rfl, hM⟩
      refine ⟨_, rfl, w_yes (wI_t ?_)⟩
      walk_at "p"
      refine take_y hB' (by decide) (by decide) _ fun r C3 r0 r1 t3 => ?_
      obtain ⟨m, rfl⟩ : ∃ m : Nat, r = m := ⟨r.toNat, by omega⟩
      walk_at "p"
      refine items_y (m := m) t3.bg (by omega) (by omega) _ fun L C4 t4 hL hl => ?_
      have c4 : C4.length = 1 := by rw [(t3.trans t4).len, c']
      rw [len2]
      refine ⟨Ls.map (fun L => lD L), atY2 c4, by rw [List.length_map]; omega, ⟨C4, Ls ++ [L], by rw [setY2 c4], t4.bg, c4, by simp, by simp [hLj], by omega, fun k L' hk => ?_⟩, by simp [c4]; omega⟩
      by_cases hkj : k < Ls.length
      · rw [List.getElem?_append_left hkj] at hk
        exact hLs k L' hk
      · have hk2 : k < (Ls ++ [L]).length := (List.getElem?_eq_some_iff.mp hk).1
        have : k = Ls.length := by simp at hk2; omega
        subst this
        simp at hk
        subst hk
        rw [hLj, ← hK]
        exact ⟨hL, by omega⟩
    · obtain ⟨C', Ls, rfl, hB', c', rfl, hLj, hj2, hLs⟩ := h
      obtain ⟨L0, L1, rfl⟩ : ∃ L0 L1, Ls = [L0, L1] := by
        match Ls, hLj with
        | [a, b], _ => exact ⟨a, b, rfl⟩
      have k0 := hLs 0 L0 rfl
      have k1 := hLs 1 L1 rfl
      rw [if_pos rfl] at k0
      rw [if_neg (by decide)] at k1
      rw [len2]
      walk_at "p"
      unfold b_law_1b_3
      have E2 : ∀ C' : Store, C' ++ (Y ++ [some (szs N M), some (.lst ([L0, L1].map fun L => lD L))]) = C' ++ (Y ++ [some (szs N M), some (its L0 L1)]) := fun _ => rfl
      rw [E2]
      walk_at "p"
      refine wo_ix (k := 0) (v1 C' _ c') rfl rfl ?_
      walk_at "p"
      refine wo_ix (k := 1) (v1 C' _ c') rfl rfl ?_
      walk_at "p"
      have go : ∀ (L2 : List T3) (C3 : Store), ItOk M L2 → L2.length ≤ 8 → Bg 0 C3 → C3.length = 1 → wS (sSeq b_law_1b_4 (sSeq b_law_1b_5 (sSeq b_law_1b_6 (sSeq b_law_1b_7 b_law_1b_8))) ⟨0, [z, some (.cell 0), s2, some (.cell (1 + Y.length)), some (.cell (1 + Y.length + 1)), s5, s6, s7, s8, s9, s10, s11, s12, s13]⟩ (C3 ++ (Y ++ [some (szs N M), some (its L0 L2)]))) P := fun L2 C3 hL2 l2 hB3 c3 =>
        rest_w hB3 c3 (by omega) hM k0.1 k0.2 hL2 l2 fun C' t5 t6 t7 t8 t9 t10 t11 t12 t13 hB' hc' => q C' _ _ _ _ _ _ _ _ _ _ _ _ hB' hc'
      have v2 : ∀ (C3 : Store) (h : C3.length = 1), vS (.cell (1 + Y.length + 1)) (C3 ++ (Y ++ [some (szs N M), some (its L0 L1)])) = some [lD L0, lD L1] := fun C3 h => vS_lst (xs := [lD L0, lD L1]) (atY2 h)
      refine wI_d (fun hNM => ?_) fun _ => ?_
      · walk_at "p"
        refine take_y hB' (by decide) (by decide) _ fun r C3 r0 r1 t3 => ?_
        have c3 : C3.length = 1 := by rw [t3.len, c']
        walk_at "p"
        refine wI_d (fun _ => ?_) fun _ => ?_
        · have hM2 : M = N := by omega
          refine setLw (i := 1 + Y.length + 1) (j := 1) ?_
          walk_at "p"
          refine wo_ix (k := 0) (v2 C3 c3) rfl rfl ?_
          walk_at "p"
          refine kept_w t3.bg c3 k0.2 _ rfl rfl rfl fun L' C4 hsub hB4 c4 => ?_
          walk_at "p"
          refine ⟨rfl, rfl, Nat.zero_le _, [lD L0, lD L1], atY2 c4, Nat.lt_succ_self _, ?_⟩
          rw [setY2 c4]
          walk_at "p"
          have hl := hsub.length_le
          exact w_pre (go L' C4 (by rw [hM2]; exact k0.1.sub hsub) (by omega) hB4 c4)
        · walk_at "p"
          exact w_pre (go L1 C3 k1.1 k1.2 t3.bg c3)
      · walk_at "p"
        exact w_pre (go L1 C' k1.1 k1.2 hB' c')
  have at1 : ∀ (C' : Store) (h : C'.length = 1), (C' ++ (Y ++ [some (.lst [.int N, .int 0])]))[1 + Y.length]? = some (some (.lst [.int N, .int 0])) := fun C' h => atY h
  walk_at "p"
  unfold b_law_1b_1
  refine setLw (i := 1 + Y.length) (j := 1) ?_
  walk_at "p"
  refine take_y t1.bg (by decide) (by decide) _ fun r C2 r0 r1 t2 => ?_
  have c2 : C2.length = 1 := by rw [t2.len, c1]
  walk_at "p"
  refine wI_d (fun _ => ?_) fun _ => ?_
  · walk_at "p"
    refine wo_ix (k := 0) (vS_lst (at1 C2 c2)) rfl rfl ?_
    walk_at "p"
    refine ⟨rfl, rfl, Nat.zero_le _, [.int N, .int 0], at1 C2 c2, Nat.lt_succ_self _, ?_⟩
    rw [setY c2]
    walk_at "p"
    exact w_pre (two N C2 (by omega) t2.bg c2)
  · walk_at "p"
    refine take_y t2.bg (by decide) (by decide) _ fun r C3 r0 r1 t3 => ?_
    have c3 : C3.length = 1 := by rw [t3.len, c2]
    obtain ⟨M, rfl⟩ : ∃ M : Nat, r = M := ⟨r.toNat, by omega⟩
    walk_at "p"
    refine ⟨rfl, rfl, Nat.zero_le _, [.int N, .int 0], at1 C3 c3, Nat.lt_succ_self _, ?_⟩
    rw [setY c3]
    walk_at "p"
    exact w_pre (two M C3 (by omega) t3.bg c3)
end
theorem law_true (ns : List Int) (hl : ns.length ≤ 63) : ∃ C, m_law [scrD ns] [] = .ok (.bl true) C := by
  obtain ⟨cs, hcs, eb⟩ := bag_ok ns hl
  have hB : Bg 0 [some (bagC 0 1234567891 0 cs)] := ⟨cs, hcs, 0, 1234567891, 0, rfl, by decide, by decide, by decide, by decide⟩
  refine ⟨[], w_eqv ?_⟩
  rw [e_law]
  apply w_fin
  unfold b_law b_law_0
  walk_at "p"
  refine w_of eb ?_
  walk_at "p"
  unfold b_law_1
  walk_at "p"
  refine ⟨by decide, ?_⟩
  refine loop_p (pure_R 0 _) (fun j sl St => ∃ (C' Y : Store) (t2 t3 t4 t5 t6 t7 t8 t9 t10 t11 t12 t13 : Option D), St = C' ++ Y ∧ Bg 0 C' ∧ C'.length = 1 ∧ sl = [some (scrD ns), some (.cell 0), t2, t3, t4, t5, t6, t7, t8, t9, t10, t11, t12, t13]) ⟨_, [], _, _, _, _, _, _, _, _, _, _, _, _, (List.append_nil _).symm, hB, rfl, rfl⟩ ?_ ?_
  · rintro j y sl St hy ⟨C1, Y, t2, t3, t4, t5, t6, t7, t8, t9, t10, t11, t12, t13, rfl, hB1, c1, rfl⟩
    refine ⟨_, rfl, ?_⟩
    exact trip_w hB1 c1 fun C' Y' t3 t4 t5 t6 t7 t8 t9 t10 t11 t12 t13 hB' c' => lp_nx ⟨C', Y', _, _, _, _, _, _, _, _, _, _, _, _, rfl, hB', c', rfl⟩
  · rintro sl St ⟨C1, Y, t2, t3, t4, t5, t6, t7, t8, t9, t10, t11, t12, t13, rfl, hB1, c1, rfl⟩
    walk_at "p"
    unfold b_law_2
    walk_at "p"
    exact ⟨rfl, rfl⟩
end CL
set_option maxHeartbeats 0
namespace CL
open PySem L2 PySem.Spec PyProof.Rows CT
theorem room0 : RoomG 10 callerA := ⟨⟨rfl, by decide, by decide⟩, rfl⟩
theorem law_sp {K : PySem.W.Frag} {H : Hp} {a : Addr} {ns : List Int} (hl : ns.length ≤ 63) (hO : Only H) (h : SqL K H a (ns.map V.int)) : SpD (cn K) 1 m_law [.ref a] H (fun v _ => v = .bl true) fun _ _ _ => False := by
  obtain ⟨C, e⟩ := law_true ns hl
  refine ⟨rfl, fun _ => 0, [], [scrD ns], ⟨fun i c z => (nomatch z), fun i j c e z => (nomatch z)⟩, .cons (rep_scr hO h) .nil, ?_⟩
  rw [e]
  intro A' H' v _ _ r
  cases r
  rfl
theorem ob_eq (s : PySem.W.SharedT) : ob s = hk.obs s.abs := obG_eq s
end CL
open PySem PySem.W PySem.Calls PyProof.Rows
theorem PySem.Challenge.cw_contentties_k23_webs_added_holds : PySem.Challenge.rw_contentties_k23_webs_added.Holds := by
  w_on; o_law
  refine HandSHeadRun.head_any (r := OpenLaw.row PySem.Challenge.rw_contentties_k23_webs_added) (q := view (OpenLaw.row PySem.Challenge.rw_contentties_k23_webs_added).prog [27]) (H := CL.hk) (ob := CL.ob) (M := 20000) (loose := CL.loose) (d := HandSHeadRun.topDef (OpenLaw.row PySem.Challenge.rw_contentties_k23_webs_added).prog 27) (kwd := []) CL.ob_eq
    (by kernel_rfl) (fun s => by kernel_rfl) CL.run (by kernel_rfl) (by kernel_rfl) (by kernel_rfl) (by rfl) (by first | assumption | decide +kernel) (by decide +kernel) ⟨rfl, rfl, rfl, rfl, rfl, by decide +kernel⟩ ?hw ?hc
  case hw => w_witness2
  case hc =>
    refine Att.attach_callB (l := PySem.Challenge.rw_contentties_k23_webs_added) (n := 63) rfl (by kernel_rfl) fun w s₀ s₁ mg mb fa o pm cd doc a vs ns G Y ho hd hcd hmg0 hobj hints hlen hbits hg => ?_
    obtain ⟨K, KX, c⟩ := Y
    have hmg : mg ("law" : PySem.Str) = some (.ref fa) := by
      have e : (HandSHeadRun.topDef (OpenLaw.row PySem.Challenge.rw_contentties_k23_webs_added).prog 27).name = ("law" : PySem.Str) := by kernel_rfl
      rw [← e]
      exact hmg0
    have T := CL.txt KX G.T.g c
    have e := hmg.symm.trans T.g_law
    cases e
    exact CT.law_core KX G.T.g G.T.b G.T.builtins G.T.nolimit hg hobj hints (Nat.le_trans hlen (by decide)) (fun base h1 h2 s H e0 q => by
      obtain ⟨fd, F, B, _⟩ := CL.ok_law (P := (PySem.Challenge.rw_contentties_k23_webs_added).prog) (w := w) (base := base) T
      exact F.run callerA [] s H ⟨[.ref a], []⟩ [.ref a] [.ref a] _ _ CL.room0 e0 (B s [.ref a] (fun b o e => (e0.bs b o (h1 b o e)).1) rfl) (.cons rfl .nil) q) (fun H hO hS => CL.law_sp hlen hO hS)
