import PyProof.Rows.All
import Wide.All
import OpenK.AllK
import Wide.FinOn
import HandS.ExcCtx
import HandS.HotCalls
import HandS.ExcInit
import HandS.TryMany
import HandS.ExcInitHot
import HandS.ForMost
import HandS.Exc
import HandS.CallSlots
import HandS.Wide
import HandS.Style
import HandS.More
import HandS.Defaults
import HandS.WordsExc
import HandS.Property
import PyProof.ReprRoads
import HandS.TupAny
import HandS.RaiseMore
import HandS.IsInst
import HandS.Codes
import HandS.Conv
import KE.SortData
import KE.KDictSum
import KE.KDictCopyH
import KE.GoesMore
import HandS.Iter
import HandS.Words
import HandS.Head0
import HandS.Head1
import HandS.Head2
import HandS.HeadEnd
import HandS.HeadHook1
import HandS.HeadHook2
import HandS.EndBits
import OpenK.KMeth
import HandS.SlotsOwn
import KE.KRevSl
import HandS.ExcField
import HandS.ExcIs
import HandS.SetFor
import HandS.TupSets
import HandS.Strs
import KE.DataFind
import HandS.MakeKwOnly
import HandS.FStr
import HandS.Text
import KE.KCallOwn
import HandS.ClsMeth
import HandS.CallLocal
import HandS.HeadNt
import HandS.Small
import HandS.Flow
import HandS.TupMul
import HandS.Zip
import KE.DataMinMax
import HandS.SortKw
import KE.KOpsOwn
import HandS.SetBool
import HandS.OwnEq
import KE.KTupSum
import KE.GoesEnum
import HandS.TupLen
import HandS.Flt
import PySem.Challenge.RW_contentties_k27_whole_webs_add_up
set_option Elab.async false
set_option linter.all false
set_option maxRecDepth 100000
set_option maxHeartbeats 4000000
/-! DL0: errors whose context is None: the layer's names stand for those of L2N. -/
namespace CT
open PySem
open L2
end CT
namespace CT
open PySem L2 PySem.Spec PyProof.Rows
end CT
set_option maxHeartbeats 4000000
/-! DL1: plain data, a store of changing cells, how they lie in the abstract heap; expressions. -/
namespace CT
open PySem L2
/-! ### the domain -/
inductive D where
  | non | bl (b : Bool) | int (i : Int) | str (s : Str)
  | lst (xs : List D) | tup (xs : List D) | scr (xs : List D) | kt (xs : List D)
  | obj (c : Nat) (fs : List D)
  | dT (ks : List (List Key)) (vs : List D)
  | cell (i : Nat)
  | exn (c : Nat) (fs : List D)
  | cls (c : Nat)
inductive Cell where
  | lst (xs : List D)
  | dT (ks : List (List Key)) (vs : List D)
  | ins (c : Nat) (fs : List D)
abbrev Store := List (Option Cell)
structure Exc where
  c : Nat
  fs : List D
inductive R (α : Type) where
  | ok (a : α) (C : Store)
  | exc (e : Exc) (C : Store)
  | stuck
/-- a def's frame: the cells below fl are its callers'; the slots -/
structure Fr where
  fl : Nat
  sl : List (Option D)
abbrev ME := Fr → Store → R D
def ofO : Option (D × Store) → R D
  | some (d, C) => .ok d C
  | none => .stuck
def bnd {α β : Type} (m : R α) (f : α → Store → R β) : R β := match m with
  | .ok a C => f a C
  | .exc e C => .exc e C
  | .stuck => .stuck
@[simp] theorem bnd_ok {α β : Type} (a : α) (C : Store) (f : α → Store → R β) : bnd (.ok a C) f = f a C := rfl
@[simp] theorem bnd_exc {α β : Type} (e : Exc) (C : Store) (f : α → Store → R β) : bnd (.exc e C) f = .exc e C := rfl
@[simp] theorem bnd_stuck {α β : Type} (f : α → Store → R β) : bnd .stuck f = .stuck := rfl
mutual
def cb (n : Nat) : D → Bool
  | .lst xs => cbL n xs
  | .tup xs => cbL n xs
  | .scr xs => cbL n xs
  | .kt xs => cbL n xs
  | .obj _ fs => cbL n fs
  | .exn _ fs => cbL n fs
  | .cls _ => true
  | .dT _ vs => cbL n vs
  | .cell i => decide (i < n)
  | .non => true | .bl _ => true | .int _ => true | .str _ => true
def cbL (n : Nat) : List D → Bool
  | [] => true
  | d :: ds => cb n d && cbL n ds
end
/-! ### how data lie in the heap -/
structure Cn where
  K : PySem.W.Frag
  cl : Nat → Addr
  fn : Nat → List Str
  /-- the error that is held: its place, its class, its dict -/
  ex : Option (Addr × Nat × Addr) := none
def Live (A : Nat → Addr) (C : Store) (a : Addr) : Prop := ∃ i c, C[i]? = some (some c) ∧ A i = a
/-- the written part's list -/
def KL (K : PySem.W.Frag) (a : Addr) (xs : List V) : Prop := ∃ (o : Obj) (its : Array Value) (n : Nat), List.lookup a K = some o ∧ o.cls = Value.type "list" ∧ o.dict = none ∧ o.data = Data.seq its n ∧ its.size ≤ sizeLine ∧ Vals xs its.toList
/-- the written part's tuple -/
def KT (K : PySem.W.Frag) (a : Addr) (xs : List V) : Prop := ∃ o its n, List.lookup a K = some o ∧ o.cls = Value.type "tuple" ∧ o.data = Data.seq its n ∧ its.size ≤ sizeLine ∧ Vals xs its.toList
/-- a dict with tuple keys; one that is not empty may be locked -/
def RdT (H : Hp) (a : Addr) (kvs : List (List Key × V)) : Prop := H a = some (.dT kvs) ∨ (kvs ≠ [] ∧ ∃ o, H a = some (.frz o (.dT kvs)))
theorem RdT.rd {H : Hp} {a : Addr} {kvs : List (List Key × V)} (h : RdT H a kvs) : Rd H a (.dT kvs) := h.elim .inl fun z => .inr z.2
mutual
inductive Rep (k : Cn) (A : Nat → Addr) (C : Store) (H : Hp) : V → D → Prop where
  | non : Rep k A C H .non .non
  | bl (b : Bool) : Rep k A C H (.bl b) (.bl b)
  | int (i : Int) : Rep k A C H (.int i) (.int i)
  | str (s : Str) : Rep k A C H (.str s) (.str s)
  | lst {a : Addr} {vs : List V} {ds : List D} : ¬ Live A C a → H a = some (.lst vs) → RepL k A C H vs ds → Rep k A C H (.ref a) (.lst ds)
  | tup {a : Addr} {vs : List V} {ds : List D} : ¬ Live A C a → H a = some (.tup vs) → RepL k A C H vs ds → Rep k A C H (.ref a) (.tup ds)
  | ktup {a : Addr} {vs : List V} {ds : List D} : KT k.K a vs → RepL k A C H vs ds → Rep k A C H (.ref a) (.kt ds)
  | scr {a : Addr} {vs : List V} {ds : List D} {o : Obj} : ¬ Live A C a → H a = some (.frz o (.lst vs)) → RepL k A C H vs ds → Rep k A C H (.ref a) (.scr ds)
  | kscr {a : Addr} {vs : List V} {ds : List D} : KL k.K a vs → RepL k A C H vs ds → Rep k A C H (.ref a) (.scr ds)
  | obj {a dx : Addr} {c : Nat} {vs : List V} {ds : List D} : ¬ Live A C a → H a = some (.ins (k.cl c) dx ((k.fn c).zip vs)) → vs.length = (k.fn c).length → RepL k A C H vs ds → Rep k A C H (.ref a) (.obj c ds)
  | dT {a : Addr} {kvs : List (List Key × V)} {ds : List D} : ¬ Live A C a → RdT H a kvs → RepL k A C H (kvs.map (·.2)) ds → Rep k A C H (.ref a) (.dT (kvs.map (·.1)) ds)
  | cell {i : Nat} : i < C.length → Rep k A C H (.ref (A i)) (.cell i)
  | cls (c : Nat) : Rep k A C H (.ref (k.cl c)) (.cls c)
  | exn {a dd : Addr} {c : Nat} {vs : List V} {ds : List D} : k.ex = some (a, c, dd) → ¬ Live A C dd → H dd = some (.xd ((k.fn c).zip vs)) → vs.length = (k.fn c).length → RepL k A C H vs ds → Rep k A C H (.ref a) (.exn c ds)
inductive RepL (k : Cn) (A : Nat → Addr) (C : Store) (H : Hp) : List V → List D → Prop where
  | nil : RepL k A C H [] []
  | cons {v : V} {d : D} {vs : List V} {ds : List D} : Rep k A C H v d → RepL k A C H vs ds → RepL k A C H (v :: vs) (d :: ds)
end
section
variable {k : Cn} {A A' : Nat → Addr} {C C' : Store} {H H' : Hp} {v : V} {d : D} {vs : List V} {ds : List D}
theorem RepL.length : ∀ {vs : List V} {ds : List D}, RepL k A C H vs ds → vs.length = ds.length
  | _, _, .nil => rfl
  | _, _, .cons _ t => by simp [RepL.length t]
theorem RepL.take : ∀ {vs : List V} {ds : List D} (n : Nat), RepL k A C H vs ds → RepL k A C H (vs.take n) (ds.take n)
  | _, _, 0, _ => by simp; exact .nil
  | _, _, _ + 1, .nil => .nil
  | _, _, n + 1, .cons r t => .cons r (RepL.take n t)
theorem RepL.drop : ∀ {vs : List V} {ds : List D} (n : Nat), RepL k A C H vs ds → RepL k A C H (vs.drop n) (ds.drop n)
  | _, _, 0, r => r
  | _, _, _ + 1, .nil => .nil
  | _, _, n + 1, .cons _ t => RepL.drop n t
theorem RepL.set {v : V} {d : D} (r : Rep k A C H v d) : ∀ {vs : List V} {ds : List D} (i : Nat), RepL k A C H vs ds → RepL k A C H (vs.set i v) (ds.set i d)
  | _, _, _, .nil => .nil
  | _, _, 0, .cons _ t => .cons r t
  | _, _, i + 1, .cons q t => .cons q (RepL.set r i t)
/-- every reading stays if the not-live objects stay and the live ones are the old ones, or new -/
structure Kp (A : Nat → Addr) (C : Store) (H : Hp) (A' : Nat → Addr) (C' : Store) (H' : Hp) : Prop where
  at_ : ∀ a o, ¬ Live A C a → H a = some o → ¬ Live A' C' a ∧ H' a = some o
  ix : ∀ i, i < C.length → A' i = A i
  len : C.length ≤ C'.length
  fz : ∀ a o (u : List (List Key × V)), H a = some (.frz o (.dT u)) → H' a = some (.frz o (.dT u))
theorem Kp.rd {a : Addr} {u : List (List Key × V)} (q : Kp A C H A' C' H') (l : ¬ Live A C a) (h : RdT H a u) : ¬ Live A' C' a ∧ RdT H' a u := by
  rcases h with h | ⟨ne, o, h⟩
  · exact ⟨(q.at_ _ _ l h).1, .inl (q.at_ _ _ l h).2⟩
  · exact ⟨(q.at_ _ _ l h).1, .inr ⟨ne, o, (q.at_ _ _ l h).2⟩⟩
mutual
theorem Rep.kp (q : Kp A C H A' C' H') : ∀ {v : V} {d : D}, Rep k A C H v d → Rep k A' C' H' v d
  | _, _, .non => .non
  | _, _, .bl b => .bl b
  | _, _, .int i => .int i
  | _, _, .str s => .str s
  | _, _, .lst l h r => .lst (q.at_ _ _ l h).1 (q.at_ _ _ l h).2 (r.kp q)
  | _, _, .tup l h r => .tup (q.at_ _ _ l h).1 (q.at_ _ _ l h).2 (r.kp q)
  | _, _, .ktup h r => .ktup h (r.kp q)
  | _, _, .scr l h r => .scr (q.at_ _ _ l h).1 (q.at_ _ _ l h).2 (r.kp q)
  | _, _, .kscr h r => .kscr h (r.kp q)
  | _, _, .obj l h z r => .obj (q.at_ _ _ l h).1 (q.at_ _ _ l h).2 z (r.kp q)
  | _, _, .dT l h r => .dT (q.rd l h).1 (q.rd l h).2 (r.kp q)
  | _, _, .cell (i := i) hi => by
    rw [← q.ix i hi]
    exact .cell (Nat.lt_of_lt_of_le hi q.len)
  | _, _, .exn x l h z r => .exn x (q.at_ _ _ l h).1 (q.at_ _ _ l h).2 z (r.kp q)
  | _, _, .cls c => .cls c
theorem RepL.kp (q : Kp A C H A' C' H') : ∀ {vs : List V} {ds : List D}, RepL k A C H vs ds → RepL k A' C' H' vs ds
  | _, _, .nil => .nil
  | _, _, .cons r t => .cons (r.kp q) (t.kp q)
end
mutual
theorem Rep.cb : ∀ {v : V} {d : D}, Rep k A C H v d → cb C.length d = true
  | _, _, .non => rfl
  | _, _, .bl b => rfl
  | _, _, .int i => rfl
  | _, _, .str s => rfl
  | _, _, .lst l h r => by simpa [CT.cb] using r.cb
  | _, _, .tup l h r => by simpa [CT.cb] using r.cb
  | _, _, .ktup h r => by simpa [CT.cb] using r.cb
  | _, _, .scr l h r => by simpa [CT.cb] using r.cb
  | _, _, .kscr h r => by simpa [CT.cb] using r.cb
  | _, _, .obj l h z r => by simpa [CT.cb] using r.cb
  | _, _, .dT l h r => by simpa [CT.cb] using r.cb
  | _, _, .cell (i := i) hi => by simpa [CT.cb] using hi
  | _, _, .exn x l h z r => by simpa [CT.cb] using r.cb
  | _, _, .cls c => rfl
theorem RepL.cb : ∀ {vs : List V} {ds : List D}, RepL k A C H vs ds → cbL C.length ds = true
  | _, _, .nil => rfl
  | _, _, .cons r t => by simp [CT.cbL, r.cb, t.cb]
end
/-- fewer live cells, all that is named still there -/
structure Fw (A : Nat → Addr) (C C' : Store) : Prop where
  lv : ∀ a, Live A C' a → Live A C a
mutual
theorem Rep.fw (q : Fw A C C') : ∀ {v : V} {d : D}, Rep k A C H v d → CT.cb C'.length d = true → Rep k A C' H v d
  | _, _, .non, _ => .non
  | _, _, .bl b, _ => .bl b
  | _, _, .int i, _ => .int i
  | _, _, .str s, _ => .str s
  | _, _, .lst l h r, z => .lst (fun y => l (q.lv _ y)) h (r.fw q (by simpa [CT.cb] using z))
  | _, _, .tup l h r, z => .tup (fun y => l (q.lv _ y)) h (r.fw q (by simpa [CT.cb] using z))
  | _, _, .ktup h r, z => .ktup h (r.fw q (by simpa [CT.cb] using z))
  | _, _, .scr l h r, z => .scr (fun y => l (q.lv _ y)) h (r.fw q (by simpa [CT.cb] using z))
  | _, _, .kscr h r, z => .kscr h (r.fw q (by simpa [CT.cb] using z))
  | _, _, .obj l h e r, z => .obj (fun y => l (q.lv _ y)) h e (r.fw q (by simpa [CT.cb] using z))
  | _, _, .dT l h r, z => .dT (fun y => l (q.lv _ y)) h (r.fw q (by simpa [CT.cb] using z))
  | _, _, .cell (i := i) hi, z => .cell (by simpa [CT.cb] using z)
  | _, _, .exn x l h e r, z => .exn x (fun y => l (q.lv _ y)) h e (r.fw q (by simpa [CT.cb] using z))
  | _, _, .cls c, _ => .cls c
theorem RepL.fw (q : Fw A C C') : ∀ {vs : List V} {ds : List D}, RepL k A C H vs ds → CT.cbL C'.length ds = true → RepL k A C' H vs ds
  | _, _, .nil, _ => .nil
  | _, _, .cons r t, z => by
    simp [CT.cbL] at z
    exact .cons (r.fw q z.1) (t.fw q z.2)
end
end
/-! ### the store -/
def CellAt (k : Cn) (A : Nat → Addr) (C : Store) (H : Hp) (a : Addr) : Cell → Prop
  | .lst ds => ∃ vs, H a = some (.lst vs) ∧ RepL k A C H vs ds
  | .dT ks ds => ∃ kvs : List (List Key × V), H a = some (.dT kvs) ∧ kvs.map (·.1) = ks ∧ RepL k A C H (kvs.map (·.2)) ds
  | .ins c ds => ∃ dx vs, H a = some (.ins (k.cl c) dx (((k.fn c).take ds.length).zip vs)) ∧ ds.length ≤ (k.fn c).length ∧ RepL k A C H vs ds
structure StOk (k : Cn) (A : Nat → Addr) (C : Store) (H : Hp) : Prop where
  at_ : ∀ i c, C[i]? = some (some c) → CellAt k A C H (A i) c
  inj : ∀ i j c e, C[i]? = some (some c) → C[j]? = some (some e) → A i = A j → i = j
def cbC (n : Nat) : Cell → Bool
  | .lst ds => cbL n ds
  | .dT _ ds => cbL n ds
  | .ins _ ds => cbL n ds
def LowC (f : Nat) (C : Store) : Prop := ∀ i c, i < f → C[i]? = some (some c) → cbC f c = true
section
variable {k : Cn} {fl : Nat} {A A' A'' : Nat → Addr} {C C' C'' : Store} {H H' H'' : Hp} {v : V} {d : D} {vs : List V} {ds : List D}
theorem CellAt.kp {c : Cell} {a : Addr} (q : Kp A C H A' C' H') (h : H' a = H a) (x : CellAt k A C H a c) : CellAt k A' C' H' a c := by
  cases c with
  | lst ds => obtain ⟨vs, e, r⟩ := x; exact ⟨vs, by rw [h]; exact e, r.kp q⟩
  | dT ks ds => obtain ⟨kvs, e, z, r⟩ := x; exact ⟨kvs, by rw [h]; exact e, z, r.kp q⟩
  | ins c ds => obtain ⟨dx, vs, e, z, r⟩ := x; exact ⟨dx, vs, by rw [h]; exact e, z, r.kp q⟩
theorem CellAt.there {c : Cell} {a : Addr} (x : CellAt k A C H a c) : ∃ o, H a = some o := by
  cases c with
  | lst ds => obtain ⟨vs, e, r⟩ := x; exact ⟨_, e⟩
  | dT ks ds => obtain ⟨kvs, e, z, r⟩ := x; exact ⟨_, e⟩
  | ins c ds => obtain ⟨dx, vs, e, z, r⟩ := x; exact ⟨_, e⟩
/-- a new object, not live -/
theorem kp_new {p : Addr} {o : HO} (h : H p = none) : Kp A C H A C (upd H p o) :=
  ⟨fun a u l e => ⟨l, by rw [upd_ne (ne_of_none e h)]; exact e⟩, fun _ _ => rfl, Nat.le_refl _, fun a o u e => by rw [upd_ne (ne_of_none e h)]; exact e⟩
theorem StOk.new {p : Addr} {o : HO} (x : StOk k A C H) (h : H p = none) : StOk k A C (upd H p o) :=
  ⟨fun i c e => by
    have y := x.at_ i c e
    obtain ⟨u, hu⟩ := y.there
    exact y.kp (kp_new h) (upd_ne (ne_of_none hu h)), x.inj⟩
/-- a new object that becomes a cell -/
def ext (A : Nat → Addr) (n : Nat) (p : Addr) : Nat → Addr := fun j => if j = n then p else A j
theorem live_ext {p : Addr} {c : Cell} {a : Addr} (l : Live (ext A C.length p) (C ++ [some c]) a) : Live A C a ∨ a = p := by
  obtain ⟨i, c', e, rfl⟩ := l
  by_cases hi : i < C.length
  · rw [List.getElem?_append_left hi] at e
    refine .inl ⟨i, c', e, ?_⟩
    unfold ext
    rw [if_neg (Nat.ne_of_lt hi)]
  · have hl : i < (C ++ [some c]).length := (List.getElem?_eq_some_iff.mp e).1
    rw [List.length_append] at hl
    have : i = C.length := by simp at hl; omega
    subst this
    refine .inr ?_
    unfold ext
    rw [if_pos rfl]
theorem kp_cell {p : Addr} {o : HO} {c : Cell} (x : StOk k A C H) (h : H p = none) : Kp A C H (ext A C.length p) (C ++ [some c]) (upd H p o) :=
  ⟨fun a u l e => ⟨fun y => (live_ext y).elim l (fun z => by rw [z, h] at e; cases e), by rw [upd_ne (ne_of_none e h)]; exact e⟩, fun i hi => by unfold ext; rw [if_neg (Nat.ne_of_lt hi)], by simp, fun a o u e => by rw [upd_ne (ne_of_none e h)]; exact e⟩
theorem StOk.cell {p : Addr} {o : HO} {c : Cell} (x : StOk k A C H) (h : H p = none) (y : CellAt k (ext A C.length p) (C ++ [some c]) (upd H p o) p c) : StOk k (ext A C.length p) (C ++ [some c]) (upd H p o) := by
  have old : ∀ i c', (C ++ [some c])[i]? = some (some c') → i < C.length → C[i]? = some (some c') ∧ ext A C.length p i = A i := fun i c' e hi => by
    rw [List.getElem?_append_left hi] at e
    exact ⟨e, by unfold ext; rw [if_neg (Nat.ne_of_lt hi)]⟩
  have new : ∀ i c', (C ++ [some c])[i]? = some (some c') → ¬ i < C.length → i = C.length ∧ c' = c := fun i c' e hi => by
    have hl : i < (C ++ [some c]).length := (List.getElem?_eq_some_iff.mp e).1
    rw [List.length_append] at hl
    have : i = C.length := by simp at hl; omega
    subst this
    simp at e
    exact ⟨rfl, e.symm⟩
  have pos : ext A C.length p C.length = p := by unfold ext; rw [if_pos rfl]
  refine ⟨fun i c' e => ?_, fun i j c1 c2 e1 e2 z => ?_⟩
  · by_cases hi : i < C.length
    · obtain ⟨e', ea⟩ := old i c' e hi
      rw [ea]
      have w := x.at_ i c' e'
      obtain ⟨u, hu⟩ := w.there
      exact w.kp (kp_cell x h) (upd_ne (ne_of_none hu h))
    · obtain ⟨rfl, rfl⟩ := new i c' e hi
      rw [pos]
      exact y
  · have far : ∀ i c', C[i]? = some (some c') → A i ≠ p := fun i c' e z => by
      obtain ⟨u, hu⟩ := (x.at_ i c' e).there
      rw [z, h] at hu
      cases hu
    by_cases hi : i < C.length
    · obtain ⟨f1, a1⟩ := old i c1 e1 hi
      by_cases hj : j < C.length
      · obtain ⟨f2, a2⟩ := old j c2 e2 hj
        rw [a1, a2] at z
        exact x.inj i j _ _ f1 f2 z
      · obtain ⟨rfl, rfl⟩ := new j c2 e2 hj
        rw [a1, pos] at z
        exact absurd z (far i _ f1)
    · obtain ⟨rfl, rfl⟩ := new i c1 e1 hi
      by_cases hj : j < C.length
      · obtain ⟨f2, a2⟩ := old j c2 e2 hj
        rw [pos, a2] at z
        exact absurd z.symm (far j _ f2)
      · obtain ⟨rfl, _⟩ := new j c2 e2 hj
        rfl
/-- the store's end is forgotten -/
theorem fw_take (n : Nat) : Fw A C (C.take n) := ⟨fun a ⟨i, c, e, z⟩ => by
  by_cases hi : i < n
  · rw [List.getElem?_take_of_lt hi] at e
    exact ⟨i, c, e, z⟩
  · rw [List.getElem?_eq_none (by simp; omega)] at e
    cases e⟩
theorem CellAt.fw {c : Cell} {a : Addr} (q : Fw A C C') (x : CellAt k A C H a c) (z : cbC C'.length c = true) : CellAt k A C' H a c := by
  cases c with
  | lst ds => obtain ⟨vs, e, r⟩ := x; exact ⟨vs, e, r.fw q z⟩
  | dT ks ds => obtain ⟨kvs, e, y, r⟩ := x; exact ⟨kvs, e, y, r.fw q z⟩
  | ins c ds => obtain ⟨dx, vs, e, y, r⟩ := x; exact ⟨dx, vs, e, y, r.fw q z⟩
theorem CellAt.cb {c : Cell} {a : Addr} (x : CellAt k A C H a c) : cbC C.length c = true := by
  cases c with
  | lst ds => obtain ⟨vs, e, r⟩ := x; exact r.cb
  | dT ks ds => obtain ⟨kvs, e, y, r⟩ := x; exact r.cb
  | ins c ds => obtain ⟨dx, vs, e, y, r⟩ := x; exact r.cb
/-- at a call every cell is below the floor -/
theorem StOk.low (x : StOk k A C H) : LowC C.length C := fun i c _ e => (x.at_ i c e).cb
theorem StOk.take {n : Nat} (x : StOk k A C H) (hn : n ≤ C.length) (h : LowC n C) : StOk k A (C.take n) H := by
  have get : ∀ i c, (C.take n)[i]? = some (some c) → i < n ∧ C[i]? = some (some c) := fun i c e => by
    by_cases hi : i < n
    · rw [List.getElem?_take_of_lt hi] at e
      exact ⟨hi, e⟩
    · rw [List.getElem?_eq_none (by simp; omega)] at e
      cases e
  have ln : (C.take n).length = n := by rw [List.length_take]; omega
  refine ⟨fun i c e => ?_, fun i j c e h1 h2 z => x.inj i j c e (get i c h1).2 (get j e h2).2 z⟩
  obtain ⟨hi, e'⟩ := get i c e
  exact (x.at_ i c e').fw (fw_take n) (by rw [ln]; exact h i c hi e')
end
/-! ### frames -/
structure SR (k : Cn) (A : Nat → Addr) (F : Fr) (C : Store) (σ : L2.St) (H : Hp) : Prop where
  st : StOk k A C H
  low : LowC F.fl C
  fl : F.fl ≤ C.length
  len : F.sl.length = σ.length
  sl : ∀ (i : Nat) (d : D), F.sl[i]? = some (some d) → ∃ v : V, σ[i]? = some (some v) ∧ Rep k A C H v d
section
variable {k : Cn} {A A' A1 : Nat → Addr} {F : Fr} {C C' C1 : Store} {H H' H1 : Hp} {σ : L2.St} {fl : Nat}
theorem SR.set {i : Nat} {v : V} {d : D} (s : SR k A F C σ H) (r : Rep k A C H v d) : SR k A ⟨F.fl, F.sl.set i (some d)⟩ C (σ.set i (some v)) H :=
  ⟨s.st, s.low, s.fl, by simp [s.len], fun j e h => by
    have h' : (F.sl.set i (some d))[j]? = some (some e) := h
    by_cases hij : i = j
    · subst hij
      by_cases hl : i < F.sl.length
      · rw [List.getElem?_set_self hl] at h'
        refine ⟨v, List.getElem?_set_self (by rw [← s.len]; exact hl), ?_⟩
        rw [← Option.some.inj (Option.some.inj h')]
        exact r
      · rw [List.getElem?_eq_none (by simp; omega)] at h'
        cases h'
    · rw [List.getElem?_set_ne hij] at h'
      obtain ⟨u, h1, h2⟩ := s.sl j e h'
      exact ⟨u, by rw [List.getElem?_set_ne hij]; exact h1, h2⟩⟩
variable {α β γ δ : Type} {rel : (Nat → Addr) → Store → Hp → β → α → Prop} {rel2 : (Nat → Addr) → Store → Hp → δ → γ → Prop} {m : R α} {Q : α → Store → (Nat → Addr) → Hp → β → Prop} {W : XK}
end
abbrev MA := Fr → Store → R (List D)
abbrev MT := Fr → Store → R Bool
end CT
set_option maxHeartbeats 4000000
/-! DL2: expressions over data: names, constants, operators, displays, subscripts, calls of built-ins. -/
namespace CT
open PySem L2
/-! ### names, constants -/
def mVar (i : Nat) : ME := fun F C => match F.sl[i]? with
  | some (some d) => .ok d C
  | _ => .stuck
def mC (d : D) : ME := fun _ C => .ok d C
/-! ### operators -/
abbrev O2 := D → D → Store → Option (D × Store)
abbrev O1 := D → Store → Option (D × Store)
abbrev OA := List D → Store → Option (D × Store)
def mOp (o : O2) (a b : ME) : ME := fun F C => bnd (a F C) fun x C1 => bnd (b F C1) fun y C2 => ofO (o x y C2)
def mUn (o : O1) (a : ME) : ME := fun F C => bnd (a F C) fun x C1 => ofO (o x C1)
def mNil : MA := fun _ C => .ok [] C
def mCons (a : ME) (r : MA) : MA := fun F C => bnd (a F C) fun x C1 => bnd (r F C1) fun xs C2 => .ok (x :: xs) C2
def mAp (o : OA) (a : MA) : ME := fun F C => bnd (a F C) fun xs C1 => ofO (o xs C1)
/-! ### tests, and, or, not -/
def mTst (a : ME) : MT := fun F C => bnd (a F C) fun x C1 => match x with
  | .bl b => .ok b C1
  | _ => .stuck
def tAndM (a b : MT) : MT := fun F C => bnd (a F C) fun x C1 => if x = true then b F C1 else .ok false C1
def tOrM (a b : MT) : MT := fun F C => bnd (a F C) fun x C1 => if x = true then .ok true C1 else b F C1
def tNotM (a : MT) : MT := fun F C => bnd (a F C) fun x C1 => .ok (!x) C1
def mAnd (a b : ME) : ME := fun F C => bnd (a F C) fun x C1 => match x with
  | .bl true => b F C1
  | .bl false => .ok (.bl false) C1
  | _ => .stuck
def mOr (a b : ME) : ME := fun F C => bnd (a F C) fun x C1 => match x with
  | .bl true => .ok (.bl true) C1
  | .bl false => b F C1
  | _ => .stuck
def mNot (a : ME) : ME := fun F C => bnd (a F C) fun x C1 => match x with
  | .bl b => .ok (.bl (!b)) C1
  | _ => .stuck
def mIf (t : MT) (a b : ME) : ME := fun F C => bnd (t F C) fun x C1 => if x = true then a F C1 else b F C1
/-! ### numbers -/
def oI (c : Int → Int → Bool) (g : Int → Int → D) : O2 := fun x y C => match x, y with
  | .int i, .int j => if c i j = true then some (g i j, C) else none
  | _, _ => none
def oI0 (g : Int → Int → D) : O2 := fun x y C => match x, y with
  | .int i, .int j => some (g i j, C)
  | _, _ => none
def oAdd : O2 := oI0 fun i j => .int (i + j)
def oSub : O2 := oI0 fun i j => .int (i - j)
def cMul (i j : Int) : Bool := (decide (-(2 ^ 64) < i) && decide (i < 2 ^ 64)) || (decide (-(2 ^ 64) < j) && decide (j < 2 ^ 64))
def oMul : O2 := oI cMul fun i j => .int (i * j)
def oLt : O2 := oI0 fun i j => .bl (decide (i < j))
def oLe : O2 := oI0 fun i j => .bl (decide (i ≤ j))
def oGt : O2 := oI0 fun i j => .bl (decide (j < i))
def oGe : O2 := oI0 fun i j => .bl (decide (j ≤ i))
def oNeg : O1 := fun x C => match x with
  | .int i => some (.int (-i), C)
  | _ => none
/-! ### a chain of two comparisons -/
def mChain (o o' : O2) (a b c : ME) : ME := fun F C => bnd (a F C) fun x C1 => bnd (b F C1) fun y C2 => bnd (ofO (o x y C2)) fun z C3 => match z with
  | .bl true => bnd (c F C3) fun w C4 => ofO (o' y w C4)
  | .bl false => .ok (.bl false) C3
  | _ => .stuck
end CT
set_option maxHeartbeats 4000000
/-! DL3: lists, tuples, dicts over data. -/
namespace CT
open PySem L2
/-! ### what a datum is as a list, a tuple, a dict -/
def vL (d : D) (C : Store) : Option (List D) := match d with
  | .lst xs => some xs
  | .cell i => match C[i]? with
    | some (some (.lst xs)) => some xs
    | _ => none
  | _ => none
def vT : D → Option (List D)
  | .tup xs => some xs
  | .kt xs => some xs
  | _ => none
def vD (d : D) (C : Store) : Option (List (List Key) × List D) := match d with
  | .dT ks vs => some (ks, vs)
  | .cell i => match C[i]? with
    | some (some (.dT ks vs)) => some (ks, vs)
    | _ => none
  | _ => none
section
variable {k : Cn} {A : Nat → Addr} {C : Store} {H : Hp} {v : V} {d : D} {ds : List D}
/-! ### new lists, tuples, dicts: own cells or plain data -/
def mkL (own : Bool) (ds : List D) (C : Store) : D × Store := if own = true then (.cell C.length, C ++ [some (.lst ds)]) else (.lst ds, C)
def mkD (own : Bool) (ks : List (List Key)) (ds : List D) (C : Store) : D × Store := if own = true then (.cell C.length, C ++ [some (.dT ks ds)]) else (.dT ks ds, C)
end
/-! ### displays -/
def szN (n : Nat) : Bool := decide (n ≤ 16777216)
def oLst (own : Bool) : OA := fun xs C => if szN xs.length = true then some (mkL own xs C) else none
def oTup : OA := fun xs C => if szN xs.length = true then some (.tup xs, C) else none
section
variable {X : Cx} {k : Cn} {W : WX} {es : List Expr} {ma : MA} {pos : Pos}
/-- {} whose keys will be tuples -/
def mDNew (own : Bool) : ME := fun _ C => .ok (mkD own [] [] C).1 (mkD own [] [] C).2
end
/-! ### subscripts -/
/-! ### dicts with tuple keys -/
def keyL : List D → Option (List Key)
  | [] => some []
  | .int i :: r => (keyL r).map fun l => .inl i :: l
  | .str s :: r => (keyL r).map fun l => .inr s :: l
  | _ :: _ => none
def lookT : List (List Key) → List D → List Key → Option D
  | k :: ks, d :: ds, key => if k = key then some d else lookT ks ds key
  | _, _, _ => none
def setT : List (List Key) → List D → List Key → D → List D
  | k :: ks, d :: ds, key, x => (if k = key then x else d) :: setT ks ds key x
  | _, _, _, _ => []
def putT (ks : List (List Key)) (ds : List D) (key : List Key) (x : D) : List (List Key) × List D := if (ks.any fun k => decide (k = key)) = true then (ks, setT ks ds key x) else (ks ++ [key], ds ++ [x])
def oDGet (x y z : D) (C : Store) : Option (D × Store) := match y with
  | .tup ds => (vD x C).bind fun p => (keyL ds).map fun key => ((lookT p.1 p.2 key).getD z, C)
  | _ => none
def mDGet (a b c : ME) : ME := fun F C => bnd (a F C) fun x C1 => if (vD x C1).isSome = true then bnd (b F C1) fun y C2 => bnd (c F C2) fun z C3 => ofO (oDGet x y z C3) else .stuck
end CT
set_option maxHeartbeats 4000000
/-! DL4: statements, defs over data. -/
namespace CT
open PySem L2
inductive RS where
  | nx (sl : List (Option D)) (C : Store)
  | rt (d : D) (C : Store)
  | bk (sl : List (Option D)) (C : Store)
  | ct (sl : List (Option D)) (C : Store)
  | xc (e : Exc) (sl : List (Option D)) (C : Store)
  | stuck
abbrev MS := Fr → Store → RS
/-! ### simple statements -/
def bndS {α : Type} (sl : List (Option D)) (m : R α) (f : α → Store → RS) : RS := match m with
  | .ok a C => f a C
  | .exc e C => .xc e sl C
  | .stuck => .stuck
@[simp] theorem bndS_ok {α : Type} (sl : List (Option D)) (a : α) (C : Store) (f : α → Store → RS) : bndS sl (.ok a C) f = f a C := rfl
@[simp] theorem bndS_exc {α : Type} (sl : List (Option D)) (e : Exc) (C : Store) (f : α → Store → RS) : bndS sl (.exc e C) f = .xc e sl C := rfl
@[simp] theorem bndS_stuck {α : Type} (sl : List (Option D)) (f : α → Store → RS) : bndS (α := α) sl .stuck f = .stuck := rfl
def sNext : MS := fun F C => .nx F.sl C
def sSeq (a b : MS) : MS := fun F C => match a F C with
  | .nx sl C1 => b ⟨F.fl, sl⟩ C1
  | r => r
def sBrk : MS := fun F C => .bk F.sl C
def sCnt : MS := fun F C => .ct F.sl C
def sDrop (m : ME) : MS := fun F C => bndS F.sl (m F C) fun _ C1 => .nx F.sl C1
def sRet (m : ME) : MS := fun F C => bndS F.sl (m F C) fun d C1 => .rt d C1
def sRetN : MS := fun F C => .rt .non C
def sIf (t : MT) (a b : MS) : MS := fun F C => bndS F.sl (t F C) fun x C1 => if x = true then a F C1 else b F C1
/-! ### targets -/
abbrev MG := D → List (Option D) → Option (List (Option D))
def gN (i : Nat) : MG := fun d sl => some (sl.set i (some d))
def setAll : List Nat → List D → List (Option D) → Option (List (Option D))
  | [], [], sl => some sl
  | i :: is, d :: ds, sl => setAll is ds (sl.set i (some d))
  | _, _, _ => none
def gT (is : List Nat) : MG := fun d sl => (vT d).bind fun ds => setAll is ds sl
end CT
set_option maxHeartbeats 4000000
/-! DL5: stores, loops over data. -/
namespace CT
open PySem L2
section
variable {X : Cx} {k : Cn} {W : WX} {E : Ends} {σ : L2.St} {H : Hp}
/-! ### assignments -/
def sAsg (m : ME) (g : MG) : MS := fun F C => bndS F.sl (m F C) fun d C1 => match g d F.sl with
  | some sl => .nx sl C1
  | none => .stuck
/-- a, b = x, y of plain local names -/
def sPar (is : List Nat) (m : MA) : MS := fun F C => bndS F.sl (m F C) fun ds C1 => match setAll is ds F.sl with
  | some sl => .nx sl C1
  | none => .stuck
end
/-! ### cells written -/
/-- the cell is written with c: below the floor c names no cells -/
def wr (fl : Nat) (i : Nat) (c : Cell) (C : Store) : Option Store := if i < fl ∧ cbC 0 c = false then none else some (C.set i (some c))
/-- the list cell's place and items -/
def cL (d : D) (C : Store) : Option (Nat × List D) := match d with
  | .cell i => match C[i]? with
    | some (some (.lst xs)) => some (i, xs)
    | _ => none
  | _ => none
def cD (d : D) (C : Store) : Option (Nat × List (List Key) × List D) := match d with
  | .cell i => match C[i]? with
    | some (some (.dT ks vs)) => some (i, ks, vs)
    | _ => none
  | _ => none
/-- xs[i] = e -/
def sSetL (me mo mi : ME) : MS := fun F C => bndS F.sl (me F C) fun v C1 => bndS F.sl (mo F C1) fun o C2 => bndS F.sl (mi F C2) fun x C3 => match x, cL o C3 with
  | .int n, some (i, ds) => match ixN ds.length n with
    | some j => match wr F.fl i (.lst (ds.set j v)) C3 with
      | some C4 => .nx F.sl C4
      | none => .stuck
    | none => .stuck
  | _, _ => .stuck
/-- d[k] = e -/
def sPut (me mo mi : ME) : MS := fun F C => bndS F.sl (me F C) fun v C1 => bndS F.sl (mo F C1) fun o C2 => bndS F.sl (mi F C2) fun x C3 => match x, cD o C3 with
  | .tup ds, some (i, ks, vs) => match keyL ds with
    | some key => if szN (ks.length + 1) = true then match wr F.fl i (.dT (putT ks vs key v).1 (putT ks vs key v).2) C3 with
      | some C4 => .nx F.sl C4
      | none => .stuck
      else .stuck
    | none => .stuck
  | _, _ => .stuck
/-! ### list methods that write -/
end CT
set_option maxHeartbeats 4000000
/-! DL6: targets, loops, comprehensions over data. -/
namespace CT
open PySem L2
/-! ### targets of names -/
inductive Tgt where
  | nm (i : Nat) | tp (is : List Nat)
  /-- (a, b, ..), c -/
  | np (is : List Nat) (l : Nat)
/-- (a, b, ..), c = .. -/
def gNP (is : List Nat) (l : Nat) : MG := fun d sl => match vT d with
  | some [a, b] => (gT is a sl).bind fun s => gN l b s
  | _ => none
def Tgt.M : Tgt → MG
  | .nm i => gN i
  | .tp is => gT is
  | .np is l => gNP is l
def wipeD (sl : List (Option D)) : List Nat → List (Option D)
  | [] => sl
  | v :: vs => (wipeD sl vs).set v none
/-! ### what is walked -/
structure ItD where
  n : Nat
  item : Nat → Store → Option D
  fin : Store → Bool
abbrev MI := Fr → Store → R ItD
/-! ### for -/
def loopN (it : ItD) (g : MG) (body : MS) (fl : Nat) : Nat → Nat → List (Option D) → Store → RS
  | 0, _, sl, C => if it.fin C = true then .nx sl C else .stuck
  | r + 1, j, sl, C => match it.item j C with
    | none => .stuck
    | some d => match g d sl with
      | none => .stuck
      | some sl1 => match body ⟨fl, sl1⟩ C with
        | .nx sl2 C2 => loopN it g body fl r (j + 1) sl2 C2
        | .ct sl2 C2 => loopN it g body fl r (j + 1) sl2 C2
        | .bk sl2 C2 => .nx sl2 C2
        | .rt d C2 => .rt d C2
        | .xc e sl2 C2 => .xc e sl2 C2
        | .stuck => .stuck
def sFor (mi : MI) (g : MG) (body : MS) : MS := fun F C => bndS F.sl (mi F C) fun it C1 => loopN it g body F.fl it.n 0 F.sl C1
/-! ### list comprehensions -/
def bn0 {α β : Type} (m : R α) (f : α → Store → R β) : R β := match m with
  | .ok a C => f a C
  | _ => .stuck
@[simp] theorem bn0_ok {α β : Type} (a : α) (C : Store) (f : α → Store → R β) : bn0 (.ok a C) f = f a C := rfl
def lcN (it : ItD) (g : MG) (tt : MT) (te : ME) (n : Nat) (sl : List (Option D)) : Nat → Nat → Store → R Unit
  | 0, _, C => if it.fin C = true then .ok () C else .stuck
  | r + 1, j, C => match it.item j C with
    | none => .stuck
    | some d => match g d sl with
      | none => .stuck
      | some sl1 => bn0 (tt ⟨n, sl1⟩ C) fun b C1 => if b = true then bn0 (te ⟨n, sl1⟩ C1) fun y C2 => match C2[n]? with
          | some (some (.lst acc)) => if szN (acc.length + 1) = true then lcN it g tt te n sl r (j + 1) (C2.set n (some (.lst (acc ++ [y])))) else .stuck
          | _ => .stuck
        else lcN it g tt te n sl r (j + 1) C1
/-- behind the loop: an own list; or plain data, the cell forgotten -/
def lcEnd (own : Bool) (n : Nat) (C : Store) : R D := if own = true then .ok (.cell n) C else match C[n]? with
  | some (some (.lst acc)) => if cbL n acc = true then .ok (.lst acc) (C.take n) else .stuck
  | _ => .stuck
def mLc (own : Bool) (mi : MI) (g : MG) (tt : MT) (te : ME) (vs : List Nat) : ME := fun F C => bnd (mi F C) fun it C1 => bn0 (lcN it g tt te C1.length (wipeD F.sl vs) it.n 0 (C1 ++ [some (.lst [])])) fun _ C2 => lcEnd own C1.length C2
end CT
set_option maxHeartbeats 4000000
/-! DL7: what is walked; defs. -/
namespace CT
open PySem L2
section
variable {X : Cx} {k : Cn} {W : WX} {E : Ends} {σ : L2.St} {H : Hp}
/-! ### lists and tuples -/
def itC (xs : List D) : ItD := ⟨xs.length, fun j _ => xs[j]?, fun _ => true⟩
def itV (i n : Nat) : ItD := ⟨n, fun j C => match C[i]? with
    | some (some (.lst ys)) => if ys.length = n then ys[j]? else none
    | _ => none, fun C => match C[i]? with
    | some (some (.lst ys)) => decide (ys.length = n)
    | _ => false⟩
def itS (d : D) (C : Store) : Option ItD := match d with
  | .tup xs => some (itC xs)
  | .kt xs => some (itC xs)
  | .lst xs => some (itC xs)
  | .cell i => match C[i]? with
    | some (some (.lst ys)) => some (itV i ys.length)
    | _ => none
  | _ => none
def mSeq (m : ME) : MI := fun F C => bnd (m F C) fun d C1 => match itS d C1 with
  | some it => .ok it C1
  | none => .stuck
/-! ### ranges -/
def inR (i : Int) : Bool := decide (-(2 ^ 62) ≤ i) && decide (i < 2 ^ 62)
def itR (lo : Int) (n : Nat) : ItD := ⟨n, fun j _ => some (.int (lo + j)), fun _ => true⟩
def mRng1 (a : ME) : MI := fun F C => bnd (a F C) fun d C1 => match d with
  | .int j => if inR j = true then .ok (itR 0 j.toNat) C1 else .stuck
  | _ => .stuck
def mRng2 (a b : ME) : MI := fun F C => bnd (a F C) fun d C1 => bnd (b F C1) fun e C2 => match d, e with
  | .int i, .int j => if (inR i && inR j) = true then .ok (itR i (j - i).toNat) C2 else .stuck
  | _, _ => .stuck
end
/-! ### defs -/
abbrev MF := List D → Store → R D
/-- what a def hands back: an own list or dict that it made becomes plain data; its cells are forgotten -/
def fz (n : Nat) (d : D) (C : Store) : D := match d with
  | .cell i => if i < n then d else match C[i]? with
    | some (some (.lst xs)) => .lst xs
    | some (some (.dT ks vs)) => .dT ks vs
    | _ => d
  | _ => d
def fin (n : Nat) (d : D) (C : Store) : R D := if cb n (fz n d C) = true then .ok (fz n d C) (C.take n) else .stuck
end CT
set_option maxHeartbeats 4000000
/-! DL8: defs, calls, instances over data. -/
namespace CT
open PySem L2 PySem.Spec PyProof.Rows
/-! ### defs that know that no repr runs around them -/
structure RoomG (lev : Nat) (A : Around) : Prop where
  room : Room lev A
  gd : A.guards = some []
/-! ### calls -/
def mCall (m : MF) (dds : List D) (a : MA) : ME := fun F C => bnd (a F C) fun ds C1 => m (ds ++ dds) C1
section
variable {X : Cx} {k : Cn} {W : WX} {σ : L2.St} {H : Hp} {Q : VK} {lev : Nat} {f C p g : Addr} {fd : FuncData} {ps : List Str} {np : Nat} {m : MF} {dvs : List V} {dds : List D} {ds : List Value} {x nm : Str} {pn pos apos : Pos} {e o : Expr} {es : List Expr} {ma : MA} {mo : ME}
/-! ### instances -/
/-- the class and the attributes of an instance -/
def vO (d : D) (C : Store) : Option (Nat × List D) := match d with
  | .obj c fs => some (c, fs)
  | .cell i => match C[i]? with
    | some (some (.ins c fs)) => some (c, fs)
    | _ => none
  | _ => none
/-- o.f, the n-th attribute of the class c -/
def oFld (c n : Nat) : O1 := fun x C => match vO x C with
  | some (c', fs) => if c' = c then (fs[n]?).map fun d => (d, C) else none
  | none => none
/-! ### methods, properties -/
/-- the receiver is an instance of c -/
def mMeth (c : Nat) (m : MF) (dds : List D) (mo : ME) (a : MA) : ME := fun F C => bnd (mo F C) fun x C1 => match vO x C1 with
  | some (c', _) => if c' = c then bnd (a F C1) fun ds C2 => m (x :: (ds ++ dds)) C2 else .stuck
  | none => .stuck
end
end CT
set_option maxHeartbeats 4000000
/-! DL9: built-in functions over data. -/
namespace CT
open PySem L2 PySem.Spec PyProof.Rows
/-! ### data as the library's own -/
mutual
def toP0 : D → Option PyData
  | .non => some .none
  | .bl b => some (.bool b)
  | .int i => some (.int i)
  | .str s => some (.str s)
  | .lst xs => (toP0s xs).map .list
  | .tup xs => (toP0s xs).map .tuple
  | .kt xs => (toP0s xs).map .tuple
  | .scr _ => none | .obj _ _ => none | .dT _ _ => none | .cell _ => none | .exn _ _ => none | .cls _ => none
def toP0s : List D → Option (List PyData)
  | [] => some []
  | d :: ds => match toP0 d, toP0s ds with
    | some p, some ps => some (p :: ps)
    | _, _ => none
end
mutual
/-- cells are looked into, one deep -/
def toP (C : Store) : D → Option PyData
  | .non => some .none
  | .bl b => some (.bool b)
  | .int i => some (.int i)
  | .str s => some (.str s)
  | .lst xs => (toPs C xs).map .list
  | .tup xs => (toPs C xs).map .tuple
  | .kt xs => (toPs C xs).map .tuple
  | .cell i => match C[i]? with
    | some (some (.lst xs)) => (toP0s xs).map .list
    | _ => none
  | .scr _ => none | .obj _ _ => none | .dT _ _ => none | .exn _ _ => none | .cls _ => none
def toPs (C : Store) : List D → Option (List PyData)
  | [] => some []
  | d :: ds => match toP C d, toPs C ds with
    | some p, some ps => some (p :: ps)
    | _, _ => none
end
/-! ### == and != of data -/
def oEqD (neg : Bool) : O2 := fun x y C => match toP C x, toP C y with
  | some p, some q => if (SeqAt.shaped p && SeqAt.shaped q) = true then some (.bl (if neg = true then !PyData.eqv p q else PyData.eqv p q), C) else none
  | _, _ => none
/-! ### repr -/
def repOk (p : PyData) : Bool := p.showable && !p.hasDict && decide (p.depth ≤ 60) && szN p.shown.length
/-! ### len, sums, least, greatest, conversions -/
def dInts : List D → Option (List Int)
  | [] => some []
  | .int i :: r => (dInts r).map fun l => i :: l
  | _ :: _ => none
@[simp] theorem dInts_map (ns : List Int) : dInts (ns.map D.int) = some ns := by
  induction ns with
  | nil => rfl
  | cons n r ih => simp [dInts, ih]
def dBools : List D → Option (List Bool)
  | [] => some []
  | .bl i :: r => (dBools r).map fun l => i :: l
  | _ :: _ => none
@[simp] theorem dBools_map (ns : List Bool) : dBools (ns.map D.bl) = some ns := by
  induction ns with
  | nil => rfl
  | cons n r ih => simp [dBools, ih]
def o2I (g : Int → Int → Int) : OA := fun xs C => match xs with
  | [.int i, .int j] => some (.int (g i j), C)
  | _ => none
def oMax2 : OA := o2I fun i j => if j > i then j else i
def oMin2 : OA := o2I fun i j => if j < i then j else i
def oAbs : OA := fun xs C => match xs with
  | [.int i] => some (.int (if i < 0 then -i else i), C)
  | _ => none
def oInt : OA := fun xs C => match xs with
  | [.int i] => some (.int i, C)
  | [.bl b] => some (.int (if b then 1 else 0), C)
  | _ => none
/-- tuple(list), tuple(tuple) -/
def oTupOf : OA := fun xs C => match xs with
  | [.tup ys] => some (.tup ys, C)
  | [.kt ys] => some (.kt ys, C)
  | [d] => (vL d C).map fun ys => (.tup ys, C)
  | _ => none
/-! ### + and * of lists, + of tuples -/
/-! ### slices of lists -/
def mNoPart : Fr → Store → R (Option Int) := fun _ C => .ok none C
def mPart (m : ME) : Fr → Store → R (Option Int) := fun F C => bnd (m F C) fun d C1 => match d with
  | .int i => .ok (some i) C1
  | _ => .stuck
def cutD (xs : List D) (lo hi : Option Int) : List D := (xs.drop (HT.sIx xs.length 0 lo)).take (HT.sIx xs.length xs.length hi - HT.sIx xs.length 0 lo)
def vLs (d : D) (C : Store) : Option (List D) := match d with
  | .scr xs => some xs
  | _ => vL d C
/-- xs[lo:hi] of a list, a new list -/
def mSlL (own : Bool) (a : ME) (l h : Fr → Store → R (Option Int)) : ME := fun F C => bnd (a F C) fun x C1 => bnd (l F C1) fun lo C2 => bnd (h F C2) fun hi C3 => match vLs x C3 with
  | some xs => ofO (some (mkL own (cutD xs lo hi) C3))
  | none => .stuck
end CT
set_option maxHeartbeats 4000000
/-! DLA: instances made, attributes stored, properties, isinstance. -/
namespace CT
open PySem L2 PySem.Spec PyProof.Rows
/-! ### C(..) -/
end CT
set_option maxHeartbeats 4000000
/-! DLB: properties, isinstance, comprehensions as statements, two clauses. -/
namespace CT
open PySem L2 PySem.Spec PyProof.Rows
/-! ### o.f, a property -/
def mProp (c : Nat) (m : MF) (mo : ME) : ME := fun F C => bnd (mo F C) fun x C1 => match vO x C1 with
  | some (c', _) => if c' = c then (match m [x] C1 with
    | .ok d C2 => .ok d C2
    | _ => .stuck) else .stuck
  | none => .stuck
/-! ### isinstance -/
inductive Bt where
  | int | bool | str | list | tuple | dict | none
  deriving DecidableEq
def Bt.name : Bt → String
  | .int => "int" | .bool => "bool" | .str => "str" | .list => "list" | .tuple => "tuple" | .dict => "dict" | .none => "NoneType"
inductive Cc where
  | ty (b : Bt) | own (c : Nat)
def isaT : Bt → Bt → Bool
  | .bool, .int => true
  | a, b => decide (a = b)
def tyD (d : D) (C : Store) : Option Cc := match d with
  | .non => some (.ty .none) | .bl _ => some (.ty .bool) | .int _ => some (.ty .int) | .str _ => some (.ty .str)
  | .lst _ => some (.ty .list) | .tup _ => some (.ty .tuple) | .kt _ => some (.ty .tuple) | .dT [] _ => some (.ty .dict) | .dT (_ :: _) _ => none
  | .obj c _ => some (.own c)
  | .scr _ => none
  | .exn _ _ => none
  | .cls _ => none
  | .cell i => match C[i]? with
    | some (some (.lst _)) => some (.ty .list)
    | some (some (.dT _ _)) => some (.ty .dict)
    | some (some (.ins c _)) => some (.own c)
    | _ => none
def isi (kn : List Nat) (d : D) (C : Store) (t : Cc) : Option Bool := match tyD d C with
  | some (.ty a) => (match t with
    | .ty b => some (isaT a b)
    | .own _ => some false)
  | some (.own c) => if c ∈ kn then (match t with
    | .ty _ => some false
    | .own c' => some (decide (c = c'))) else none
  | none => none
def mIsi (kn : List Nat) (t : Cc) (m : ME) : ME := fun F C => bnd (m F C) fun d C1 => match isi kn d C1 t with
  | some b => .ok (.bl b) C1
  | none => .stuck
def mIsi2 (kn : List Nat) (t u : Cc) (m : ME) : ME := fun F C => bnd (m F C) fun d C1 => match isi kn d C1 t, isi kn d C1 u with
  | some b, some b' => .ok (.bl (b || b')) C1
  | _, _ => .stuck
def Cc.val (k : Cn) : Cc → Value
  | .ty b => .type b.name
  | .own c => .ref (k.cl c)
def Cc.v (k : Cn) : Cc → V
  | .ty b => .ty b.name
  | .own c => .ref (k.cl c)
theorem Cc.cls {k : Cn} (t : Cc) : ClsV (t.v k) (t.val k) := by
  cases t with
  | ty b => exact .ty _
  | own c => exact .own _
end CT
set_option maxHeartbeats 4000000
/-! DLC: isinstance as an expression; comprehensions that are assigned, and of two clauses; xs[i] += e; membership; list(range(..)). -/
namespace CT
open PySem L2 PySem.Spec PyProof.Rows
section
variable {X : Cx} {k : Cn} {W : WX} {σ : L2.St} {H : Hp} {Q : VK} {E : Ends}
/-! ### tests of a clause -/
def tYesM : MT := fun _ C => .ok true C
/-! ### y = [..] -/
/-! ### two clauses -/
/-! ### xs[i] += e -/
def sAugL (o : Int → Int → Int) (mo mi me : ME) : MS := fun F C => bndS F.sl (mo F C) fun l C1 => bndS F.sl (mi F C1) fun x C2 => match x, cL l C2 with
  | .int n, some (_, ds) => if 0 ≤ n then (match ds[n.toNat]? with
    | some (.int a) => bndS F.sl (me F C2) fun v C3 => (match v, cL l C3 with
      | .int b, some (i, es) => (match ixN es.length n with
        | some j => (match wr F.fl i (.lst (es.set j (.int (o a b)))) C3 with
          | some C4 => .nx F.sl C4
          | none => .stuck)
        | none => .stuck)
      | _, _ => .stuck)
    | _ => .stuck) else .stuck
  | _, _ => .stuck
/-! ### x in a tuple or list of data -/
end
end CT
set_option maxHeartbeats 4000000
/-! DLD: list(range(..)), sorted(..), dict(..). -/
namespace CT
open PySem L2 PySem.Spec PyProof.Rows
/-! ### sorted -/
end CT
set_option maxHeartbeats 4000000
/-! DLE: sorted and dict(d) over data. -/
namespace CT
open PySem L2 PySem.Spec PyProof.Rows
/-! ### dict(d), keys that are tuples -/
end CT
set_option maxHeartbeats 4000000
/-! DLF: dict(d) over data; enumerate. -/
namespace CT
open PySem L2 PySem.Spec PyProof.Rows
/-! ### a list of unlike numbers -/
inductive BT where
  | lf | nd (l : BT) (x : Nat) (r : BT)
def BT.ins (x : Nat) : BT → Option BT
  | .lf => some (.nd .lf x .lf)
  | .nd l y r => bif Nat.blt x y then (match l.ins x with
      | some l' => some (.nd l' y r)
      | none => none) else bif Nat.blt y x then (match r.ins x with
      | some r' => some (.nd l y r')
      | none => none) else none
/-! ### enumerate(tuple) -/
def prI (it : ItD) : ItD := ⟨it.n, fun j C => (it.item j C).map fun x => .tup [.int (j : Nat), x], it.fin⟩
def mEnum (m : ME) : MI := fun F C => bnd (m F C) fun d C1 => match itS d C1 with
  | some it => .ok (prI it) C1
  | none => .stuck
end CT
set_option maxHeartbeats 4000000
/-! DLG: what the head tells (defs by addresses, checks), the law's end for data. -/
namespace CT
open PySem L2 PySem.Spec PyProof.Rows
/-! ### defs, by where they stand -/
structure DefX where
  adr : PySem.W.Frag → Addr
  name : Str
  qual : Str
  params : Arguments
  body : List Stmt
  scope : Scope
  dfl : PySem.W.Frag → List V := fun _ => []
def fnX (K : PySem.W.Frag) (a : Addr) : He.FnW := match K.lookup a with
  | some ⟨_, _, .func fd, _⟩ => some (fd.name, fd.qualname, fd.params, fd.body, fd.scope, fd.globals, fd.closure, fd.builtins)
  | _ => none
def DefX.val (d : DefX) : He.FnW := some (d.name, d.qual, d.params, .stmts d.body, d.scope, mainGlobals, [], builtinsNs)
def DefX.ok (K : PySem.W.Frag) (d : DefX) : Bool := PySem.W.keepIn K (.ref (d.adr K)) && (match K.lookup (d.adr K) with
  | some ⟨_, _, .func fd, _⟩ => PySem.W.codeIn K fd.code d.qual && He.dflB K fd.defaults (d.dfl K)
  | _ => false)
/-! ### the head's look -/
abbrev AlX : Type := Bool × List He.FnW
def obX (fs : List (PySem.W.Frag → Bool)) (fn : List DefX) (K : PySem.W.Frag) : AlX := ((fs.all fun f => f K) && fn.all fun d => d.ok K, fn.map fun d => fnX K (d.adr K))
def vlX (fn : List DefX) : AlX := (true, fn.map DefX.val)
def SaysX (fs : List (PySem.W.Frag → Bool)) (fn : List DefX) (K : PySem.W.Frag) : Prop := obX fs fn K = vlX fn
/-! ### checks -/
section
variable {K : PySem.W.Frag}
/-- a property's object, its getter -/
def prA (K : PySem.W.Frag) (C : Addr) (f : Str) : Addr := He.ma K C f
def prG (K : PySem.W.Frag) (C : Addr) (f : Str) : Addr := match PySem.W.recIn K (prA K C f) "property" with
  | some (.ref g :: _) => g
  | _ => 0
def prB (x f : Str) (K : PySem.W.Frag) : Bool := He.eqO (PySem.W.findIn K (.ref (He.ga K x)) f) (some (some (.ref (prA K (He.ga K x) f)))) && (He.eqO (PySem.W.specialIn K (.ref (prA K (He.ga K x) f)) "__get__") (some (some (.builtin "property.__get__"))) &&
  (decide (PySem.W.takesIn K (.ref (prA K (He.ga K x) f)) = some true) && (match PySem.W.recIn K (prA K (He.ga K x) f) "property" with
    | some (.ref _ :: _) => true
    | _ => false)))
def allBt : List Bt := [.int, .bool, .str, .list, .tuple, .dict, .none]
def insB (C : Addr) (K : PySem.W.Frag) : Bool := PySem.W.plainGet K C Str.empty && (PySem.W.hasDictIn K C && (PySem.W.plainOver K C && (He.eqO (PySem.W.findIn K (.ref C) "__setattr__") (some (some (.builtin "object.__setattr__"))) &&
  (He.eqO (PySem.W.findIn K (.ref C) "__class__") (some (some (.builtin "object.__class__"))) && (He.eqO (PySem.W.specialIn K (.builtin "object.__class__") "__get__") (some (some (.builtin "getset_descriptor.__get__"))) &&
  (decide (PySem.W.takesIn K (.builtin "object.__class__") = some true) && (decide (PySem.W.mroIn K C (.type "object") = some true) && decide (PySem.W.kitOne K (.ref C) (.ref C) = some true))))))))
def isaB (cl : PySem.W.Frag → Nat → Addr) (kn : List Nat) (K : PySem.W.Frag) : Bool := (kn.all fun c => insB (cl K c) K) && ((kn.all fun c => kn.all fun c' => decide (PySem.W.kitOne K (.ref (cl K c)) (.ref (cl K c')) = some (decide (c = c')))) &&
  (kn.all fun c => allBt.all fun b => decide (PySem.W.kitOne K (.ref (cl K c)) (.type b.name) = some false) && decide (PySem.W.kitOne K (.type b.name) (.ref (cl K c)) = some false)))
/-- an empty tuple of the written part -/
def ktB (a : PySem.W.Frag → Addr) (K : PySem.W.Frag) : Bool := match K.lookup (a K) with
  | some ⟨.type c, _, .seq its _, _⟩ => decide (c = "tuple") && decide (its.size = 0)
  | _ => false
end
/-! ### the end -/
end CT
set_option maxHeartbeats 4000000
/-! DLH: a def that hands back a list of its own, to be changed by its caller. -/
namespace CT
open PySem L2 PySem.Spec PyProof.Rows
end CT
set_option maxHeartbeats 4000000
/-! DLI: comparisons as tests. -/
namespace CT
open PySem L2 PySem.Spec PyProof.Rows
/-! ### == and !=, scalars or data -/
def oEqA (neg : Bool) : O2 := fun x y C => match x, y with
  | .int a, .int b => some (.bl (if neg = true then !decide (a = b) else decide (a = b)), C)
  | .str a, .str b => some (.bl (if neg = true then !decide (a = b) else decide (a = b)), C)
  | x, y => oEqD neg x y C
end CT
set_option maxHeartbeats 4000000
/-! DLJ: operators that a class defines: ==, !=, +, in, []. -/
namespace CT
open PySem L2 PySem.Spec PyProof.Rows
end CT
set_option maxHeartbeats 4000000
/-! DLK: != by an own __eq__; x[i] by an own __getitem__. -/
namespace CT
open PySem L2 PySem.Spec PyProof.Rows
end CT
set_option maxHeartbeats 4000000
/-! DLL: own operators over data. -/
namespace CT
open PySem L2 PySem.Spec PyProof.Rows
/-! ### the terms -/
/-! ### readings -/
end CT
set_option maxHeartbeats 4000000
/-! DLM: what the head says of own operators. -/
namespace CT
open PySem L2 PySem.Spec PyProof.Rows
section
variable {K : PySem.W.Frag}
def dnB (x f : Str) (K : PySem.W.Frag) : Bool := He.eqO (PySem.W.findIn K (.ref (He.ga K x)) f) (some (some (.ref (He.ma K (He.ga K x) f)))) && (PySem.W.isFn K (.ref (He.ma K (He.ga K x) f)) && PySem.W.fnIn K (He.ma K (He.ga K x) f))
def eqB (x : Str) (K : PySem.W.Frag) : Bool := dnB x "__eq__" K && (He.eqO (PySem.W.findIn K (.ref (He.ga K x)) "__ne__") (some (some (.builtin "object.__ne__"))) && (decide (PySem.W.mroIn K (He.ga K x) (.type "object") = some true) &&
  ((allBt.all fun b => decide (PySem.W.subIn K (.type b.name) (.ref (He.ga K x)) = some false)) && insB (He.ga K x) K)))
def sfB (x : Str) (K : PySem.W.Frag) : Bool := PySem.W.selfFirst K (He.ga K x)
end
end CT
set_option maxHeartbeats 4000000
/-! DLN: t[::-1], xs[::-1], t[lo:hi]. -/
namespace CT
open PySem L2 PySem.Spec PyProof.Rows HT
def mRevT (m : ME) : ME := fun F C => bnd (m F C) fun x C1 => match vT x with
  | some xs => .ok (.tup xs.reverse) C1
  | none => .stuck
/-- t[lo:hi], the whole tuple too -/
def mSlA (a : ME) (l h : Fr → Store → R (Option Int)) : ME := fun F C => bnd (a F C) fun x C1 => bnd (l F C1) fun lo C2 => bnd (h F C2) fun hi C3 => match vT x with
  | some xs => if HT.sIx xs.length 0 lo = 0 ∧ HT.sIx xs.length xs.length hi = xs.length then .ok x C3 else .ok (.tup (cutD xs lo hi)) C3
  | none => .stuck
end CT
set_option maxHeartbeats 4000000
/-! DLO: errors of the program's own: made and raised. -/
namespace CT
open PySem L2 PySem.Spec PyProof.Rows
/-! ### what the head says of an error class -/
def oexB (x : Str) (K : PySem.W.Frag) : Bool := (match K.lookup (He.ga K x) with
    | some ⟨.type t, _, .cls cd, sl⟩ => decide (t = "type") && (cd.hasDict && (!cd.hasDel && (match cd.mro, sl.toList with
      | .ref C' :: bm, [_, _, _, _, some (.builtin n), _] => decide (C' = He.ga K x) && (decide (n = "ValueError.__new__") && PySem.HandSPX.refsVE bm)
      | _, _ => false)))
    | _ => false) && (He.eqO (PySem.W.findIn K (.ref (He.ga K x)) "__setattr__") (some (some (.builtin "object.__setattr__"))) && (decide (PySem.W.subIn K (.ref (He.ga K x)) (.type "BaseException") = some true) &&
      (decide (PySem.W.typeIn K (.ref (He.ga K x)) = some (.type "type")) && PySem.W.keepIn K (.ref (He.ga K x)))))
def xiB (x : Str) (K : PySem.W.Frag) : Bool := oexB x K && (He.eqO (PySem.W.findIn K (.ref (He.ga K x)) "__init__") (some (some (.ref (He.ma K (He.ga K x) "__init__")))) && decide (PySem.W.typeIn K (.ref (He.ma K (He.ga K x) "__init__")) = some (.type "function")))
/-! ### __init__: one field, two fields -/
/-! ### raise C(e, ..) -/
def sRaise (c n : Nat) (ma : MA) : MS := fun F C => bndS F.sl (ma F C) fun ds C1 => if ds.length = n then .xc ⟨c, ds.reverse⟩ F.sl C1 else .stuck
end CT
set_option maxHeartbeats 4000000
/-! DLP: try: .. except C as n: .. return; the error is held as data. -/
namespace CT
open PySem L2 PySem.Spec PyProof.Rows
mutual
/-- no held error within -/
def nx : D → Bool
  | .lst xs => nxL xs
  | .tup xs => nxL xs
  | .scr xs => nxL xs
  | .kt xs => nxL xs
  | .obj _ fs => nxL fs
  | .dT _ vs => nxL vs
  | .exn _ _ => false
  | .cls _ => true
  | .cell _ => true | .non => true | .bl _ => true | .int _ => true | .str _ => true
def nxL : List D → Bool
  | [] => true
  | d :: ds => nx d && nxL ds
end
section
variable {k : Cn} {A A' : Nat → Addr} {C C' : Store} {H H' : Hp} {a dd : Addr} {c : Nat} {fl : Nat}
mutual
theorem Rep.nx (hk : k.ex = none) : ∀ {v : V} {d : D}, Rep k A C H v d → CT.nx d = true
  | _, _, .non => rfl
  | _, _, .bl b => rfl
  | _, _, .int i => rfl
  | _, _, .str s => rfl
  | _, _, .lst l h r => by simpa [CT.nx] using r.nx hk
  | _, _, .tup l h r => by simpa [CT.nx] using r.nx hk
  | _, _, .ktup h r => by simpa [CT.nx] using r.nx hk
  | _, _, .scr l h r => by simpa [CT.nx] using r.nx hk
  | _, _, .kscr h r => by simpa [CT.nx] using r.nx hk
  | _, _, .obj l h z r => by simpa [CT.nx] using r.nx hk
  | _, _, .dT l h r => by simpa [CT.nx] using r.nx hk
  | _, _, .cell hi => rfl
  | _, _, .cls c => rfl
  | _, _, .exn x l h z r => by rw [hk] at x; cases x
theorem RepL.nx (hk : k.ex = none) : ∀ {vs : List V} {ds : List D}, RepL k A C H vs ds → CT.nxL ds = true
  | _, _, .nil => rfl
  | _, _, .cons r t => by simp [CT.nxL, r.nx hk, t.nx hk]
end
end
end CT
set_option maxHeartbeats 4000000
/-! DLQ: isinstance of the held error. -/
namespace CT
open PySem L2 PySem.Spec PyProof.Rows PySem.W
section
variable {X : Cx} {k : Cn} {W : WX} {σ : L2.St} {H : Hp} {Q : VK}
def excA (C : Addr) (K : Frag) : Bool := He.eqO (findIn K (.ref C) "__getattribute__") (some (some (.builtin "BaseException.__getattribute__"))) && (He.eqO (findIn K (.ref C) "__getattr__") (some none) && (decide (subIn K (.ref C) (.type "BaseException") = some true) && (hasDictIn K C &&
  (He.eqO (findIn K (.ref C) "__class__") (some (some (.builtin "object.__class__"))) && (He.eqO (specialIn K (.builtin "object.__class__") "__get__") (some (some (.builtin "getset_descriptor.__get__"))) && (decide (takesIn K (.builtin "object.__class__") = some true) && decide (mroIn K C (.type "object") = some true)))))))
def xsB (cl : Frag → Nat → Addr) (kn : List Nat) (K : Frag) : Bool := (kn.all fun c => excA (cl K c) K) && kn.all fun c => kn.all fun c' => decide (kitOne K (.ref (cl K c)) (.ref (cl K c')) = some (decide (c = c')))
/-- what an except clause says of the classes -/
def exmB (cl : Frag → Nat → Addr) (x : Str) (cs ds : List Nat) (K : Frag) : Bool := (cs.all fun c => decide (exmOne K (.ref (cl K c)) (.ref (He.ga K x)) = some true)) && ds.all fun c => decide (exmOne K (.ref (cl K c)) (.ref (He.ga K x)) = some false)
end
end CT
set_option maxHeartbeats 4000000
/-! DLR: web * k. -/
namespace CT
open PySem L2 PySem.Spec PyProof.Rows PySem.W
/-! ### over data -/
def mulB (x : Str) (K : Frag) : Bool := selfFirst K (He.ga K x) && (He.eqO (findIn K (.ref (He.ga K x)) (PySem.dunder "mul")) (some (some (.ref (He.ma K (He.ga K x) "__mul__")))) && (He.eqO (findIn K (.ref (He.ga K x)) (PySem.dunderR "mul")) (some (some (.ref (He.ma K (He.ga K x) "__rmul__")))) &&
  (isFn K (.ref (He.ma K (He.ga K x) "__mul__")) && (isFn K (.ref (He.ma K (He.ga K x) "__rmul__")) && (decide (subIn K (.type "int") (.ref (He.ga K x)) = some false) && decide (subIn K (.ref (He.ga K x)) (.type "int") = some false))))))
end CT
set_option maxHeartbeats 4000000
/-! DLS: is None; sorted(set(xs)) of ints, len(set(xs)) of tuples of ints. -/
namespace CT
open PySem L2 PySem.Spec PyProof.Rows
/-! ### is None, is not None -/
/-! ### set(xs), xs a list of ints -/
end CT
set_option maxHeartbeats 4000000
/-! E1: how the terms of the layer are worked out. -/
namespace CT
open PySem L2
/-! ### named steps; simp looks at what is done first alone -/
def getV (o : Option (Option D)) (C : Store) : R D := match o with
  | some (some d) => .ok d C
  | _ => .stuck
@[simp] theorem getV_some (d : D) (C : Store) : getV (some (some d)) C = .ok d C := rfl
def thenS (r : RS) (f : List (Option D) → Store → RS) : RS := match r with
  | .nx sl C => f sl C
  | r => r
@[simp] theorem thenS_nx (sl : List (Option D)) (C : Store) (f : List (Option D) → Store → RS) : thenS (.nx sl C) f = f sl C := rfl
@[simp] theorem thenS_rt (d : D) (C : Store) (f : List (Option D) → Store → RS) : thenS (.rt d C) f = .rt d C := rfl
@[simp] theorem thenS_bk (sl : List (Option D)) (C : Store) (f : List (Option D) → Store → RS) : thenS (.bk sl C) f = .bk sl C := rfl
@[simp] theorem thenS_ct (sl : List (Option D)) (C : Store) (f : List (Option D) → Store → RS) : thenS (.ct sl C) f = .ct sl C := rfl
def asB (d : D) (C : Store) : R Bool := match d with
  | .bl b => .ok b C
  | _ => .stuck
@[simp] theorem asB_bl (b : Bool) (C : Store) : asB (.bl b) C = .ok b C := rfl
def asgS (o : Option (List (Option D))) (C : Store) : RS := match o with
  | some sl => .nx sl C
  | none => .stuck
@[simp] theorem asgS_some (sl : List (Option D)) (C : Store) : asgS (some sl) C = .nx sl C := rfl
def finS (n : Nat) (r : RS) : R D := match r with
  | .nx _ C' => fin n .non C'
  | .rt d C' => fin n d C'
  | .xc e _ C' => if cbL n e.fs = true then .exc e (C'.take n) else .stuck
  | _ => .stuck
@[simp] theorem finS_nx (n : Nat) (sl : List (Option D)) (C : Store) : finS n (.nx sl C) = fin n .non C := rfl
@[simp] theorem finS_rt (n : Nat) (d : D) (C : Store) : finS n (.rt d C) = fin n d C := rfl
@[simp] theorem fin_int (n : Nat) (i : Int) (C : Store) : fin n (.int i) C = .ok (.int i) (C.take n) := rfl
@[simp] theorem fin_bl (n : Nat) (i : Bool) (C : Store) : fin n (.bl i) C = .ok (.bl i) (C.take n) := rfl
@[simp] theorem fin_non (n : Nat) (C : Store) : fin n .non C = .ok .non (C.take n) := rfl
@[simp] theorem fin_str (n : Nat) (i : Str) (C : Store) : fin n (.str i) C = .ok (.str i) (C.take n) := rfl
section
variable (fl : Nat) (sl : List (Option D)) (C : Store) (F : Fr)
@[simp] theorem ev_var (i : Nat) : mVar i ⟨fl, sl⟩ C = getV sl[i]? C := rfl
@[simp] theorem ev_c (d : D) : mC d F C = .ok d C := rfl
@[simp] theorem ev_nil : mNil F C = .ok [] C := rfl
@[simp] theorem ev_next : sNext F C = .nx F.sl C := rfl
@[simp] theorem ev_yes : tYesM F C = .ok true C := rfl
@[simp] theorem ev_retN : sRetN F C = .rt .non C := rfl
@[simp] theorem ev_gN (i : Nat) (d : D) : gN i d sl = some (sl.set i (some d)) := rfl
@[simp] theorem ev_ofO_some (d : D) : ofO (some (d, C)) = .ok d C := rfl
@[simp] theorem ev_ofO_none : ofO none = .stuck := rfl
@[simp] theorem ev_add (a b : Int) : oAdd (.int a) (.int b) C = some (.int (a + b), C) := rfl
@[simp] theorem ev_sub (a b : Int) : oSub (.int a) (.int b) C = some (.int (a - b), C) := rfl
@[simp] theorem ev_lt (a b : Int) : oLt (.int a) (.int b) C = some (.bl (decide (a < b)), C) := rfl
@[simp] theorem ev_le (a b : Int) : oLe (.int a) (.int b) C = some (.bl (decide (a ≤ b)), C) := rfl
@[simp] theorem ev_gt (a b : Int) : oGt (.int a) (.int b) C = some (.bl (decide (b < a)), C) := rfl
@[simp] theorem ev_ge (a b : Int) : oGe (.int a) (.int b) C = some (.bl (decide (b ≤ a)), C) := rfl
@[simp] theorem ev_neg (a : Int) : oNeg (.int a) C = some (.int (-a), C) := rfl
@[simp] theorem ev_min (a b : Int) : oMin2 [.int a, .int b] C = some (.int (min a b), C) := by
  show some (D.int (if b < a then b else a), C) = _
  congr 3
  by_cases h : b < a
  · rw [if_pos h]; omega
  · rw [if_neg h]; omega
@[simp] theorem ev_max (a b : Int) : oMax2 [.int a, .int b] C = some (.int (max a b), C) := by
  show some (D.int (if b > a then b else a), C) = _
  congr 3
  by_cases h : b > a
  · rw [if_pos h]; omega
  · rw [if_neg h]; omega
@[simp] theorem ev_int (a : Int) : oInt [.int a] C = some (.int a, C) := rfl
@[simp] theorem ev_abs (a : Int) : oAbs [.int a] C = some (.int (a.natAbs : Int), C) := by
  show some (D.int (if a < 0 then -a else a), C) = _
  congr 3
  by_cases h : a < 0
  · rw [if_pos h]; omega
  · rw [if_neg h]; omega
theorem ev_mul {a b : Int} (h : cMul a b = true) : oMul (.int a) (.int b) C = some (.int (a * b), C) := by
  show (if cMul a b = true then some (D.int (a * b), C) else none) = _
  rw [if_pos h]
@[simp] theorem ev_eq (a b : Int) : oEqA false (.int a) (.int b) C = some (.bl (decide (a = b)), C) := rfl
@[simp] theorem ev_ne (a b : Int) : oEqA true (.int a) (.int b) C = some (.bl (!decide (a = b)), C) := rfl
@[simp] theorem ev_eqS (a b : Str) : oEqA false (.str a) (.str b) C = some (.bl (decide (a = b)), C) := rfl
@[simp] theorem ev_neS (a b : Str) : oEqA true (.str a) (.str b) C = some (.bl (!decide (a = b)), C) := rfl
end
/-! ### what is done next, as constants -/
section
variable {α β : Type}
def opK2 (o : O2) (x : D) (m : R D) : R D := bnd m fun y C2 => ofO (o x y C2)
@[simp] theorem opK2_ok (o : O2) (x y : D) (C : Store) : opK2 o x (.ok y C) = ofO (o x y C) := rfl
def opK (o : O2) (b : ME) (F : Fr) (m : R D) : R D := bnd m fun x C1 => opK2 o x (b F C1)
@[simp] theorem opK_ok (o : O2) (b : ME) (F : Fr) (x : D) (C : Store) : opK o b F (.ok x C) = opK2 o x (b F C) := rfl
@[simp] theorem ev_op (o : O2) (a b : ME) (F : Fr) (C : Store) : mOp o a b F C = opK o b F (a F C) := rfl
def unK (o : O1) (m : R D) : R D := bnd m fun x C1 => ofO (o x C1)
@[simp] theorem unK_ok (o : O1) (x : D) (C : Store) : unK o (.ok x C) = ofO (o x C) := rfl
@[simp] theorem ev_un (o : O1) (a : ME) (F : Fr) (C : Store) : mUn o a F C = unK o (a F C) := rfl
def consK2 (x : D) (m : R (List D)) : R (List D) := bnd m fun xs C2 => .ok (x :: xs) C2
@[simp] theorem consK2_ok (x : D) (xs : List D) (C : Store) : consK2 x (.ok xs C) = .ok (x :: xs) C := rfl
def consK (r : MA) (F : Fr) (m : R D) : R (List D) := bnd m fun x C1 => consK2 x (r F C1)
@[simp] theorem consK_ok (r : MA) (F : Fr) (x : D) (C : Store) : consK r F (.ok x C) = consK2 x (r F C) := rfl
@[simp] theorem ev_cons (a : ME) (r : MA) (F : Fr) (C : Store) : mCons a r F C = consK r F (a F C) := rfl
def apK (o : OA) (m : R (List D)) : R D := bnd m fun xs C1 => ofO (o xs C1)
@[simp] theorem apK_ok (o : OA) (xs : List D) (C : Store) : apK o (.ok xs C) = ofO (o xs C) := rfl
@[simp] theorem ev_ap (o : OA) (a : MA) (F : Fr) (C : Store) : mAp o a F C = apK o (a F C) := rfl
def tstK (m : R D) : R Bool := bnd m asB
@[simp] theorem tstK_ok (b : Bool) (C : Store) : tstK (.ok (.bl b) C) = .ok b C := rfl
@[simp] theorem ev_tst (a : ME) (F : Fr) (C : Store) : mTst a F C = tstK (a F C) := rfl
def tandK (b : MT) (F : Fr) (m : R Bool) : R Bool := bnd m fun x C1 => if x = true then b F C1 else .ok false C1
@[simp] theorem tandK_t (b : MT) (F : Fr) (C : Store) : tandK b F (.ok true C) = b F C := rfl
@[simp] theorem tandK_f (b : MT) (F : Fr) (C : Store) : tandK b F (.ok false C) = .ok false C := rfl
@[simp] theorem ev_tand (a b : MT) (F : Fr) (C : Store) : tAndM a b F C = tandK b F (a F C) := rfl
def torK (b : MT) (F : Fr) (m : R Bool) : R Bool := bnd m fun x C1 => if x = true then .ok true C1 else b F C1
@[simp] theorem torK_t (b : MT) (F : Fr) (C : Store) : torK b F (.ok true C) = .ok true C := rfl
@[simp] theorem torK_f (b : MT) (F : Fr) (C : Store) : torK b F (.ok false C) = b F C := rfl
@[simp] theorem ev_tor (a b : MT) (F : Fr) (C : Store) : tOrM a b F C = torK b F (a F C) := rfl
def tnotK (m : R Bool) : R Bool := bnd m fun x C1 => .ok (!x) C1
@[simp] theorem tnotK_ok (x : Bool) (C : Store) : tnotK (.ok x C) = .ok (!x) C := rfl
@[simp] theorem ev_tnot (a : MT) (F : Fr) (C : Store) : tNotM a F C = tnotK (a F C) := rfl
def ifK (a b : ME) (F : Fr) (m : R Bool) : R D := bnd m fun x C1 => if x = true then a F C1 else b F C1
@[simp] theorem ifK_t (a b : ME) (F : Fr) (C : Store) : ifK a b F (.ok true C) = a F C := rfl
@[simp] theorem ifK_f (a b : ME) (F : Fr) (C : Store) : ifK a b F (.ok false C) = b F C := rfl
@[simp] theorem ev_if (t : MT) (a b : ME) (F : Fr) (C : Store) : mIf t a b F C = ifK a b F (t F C) := rfl
def andK (b : ME) (F : Fr) (m : R D) : R D := bnd m fun x C1 => match x with
  | .bl true => b F C1
  | .bl false => .ok (.bl false) C1
  | _ => .stuck
@[simp] theorem andK_t (b : ME) (F : Fr) (C : Store) : andK b F (.ok (.bl true) C) = b F C := rfl
@[simp] theorem andK_f (b : ME) (F : Fr) (C : Store) : andK b F (.ok (.bl false) C) = .ok (.bl false) C := rfl
@[simp] theorem ev_and (a b : ME) (F : Fr) (C : Store) : mAnd a b F C = andK b F (a F C) := rfl
def orK (b : ME) (F : Fr) (m : R D) : R D := bnd m fun x C1 => match x with
  | .bl true => .ok (.bl true) C1
  | .bl false => b F C1
  | _ => .stuck
@[simp] theorem orK_t (b : ME) (F : Fr) (C : Store) : orK b F (.ok (.bl true) C) = .ok (.bl true) C := rfl
@[simp] theorem orK_f (b : ME) (F : Fr) (C : Store) : orK b F (.ok (.bl false) C) = b F C := rfl
@[simp] theorem ev_or (a b : ME) (F : Fr) (C : Store) : mOr a b F C = orK b F (a F C) := rfl
def notK (m : R D) : R D := bnd m fun x C1 => match x with
  | .bl b => .ok (.bl (!b)) C1
  | _ => .stuck
@[simp] theorem notK_ok (b : Bool) (C : Store) : notK (.ok (.bl b) C) = .ok (.bl (!b)) C := rfl
@[simp] theorem ev_not (a : ME) (F : Fr) (C : Store) : mNot a F C = notK (a F C) := rfl
def chK4 (o' : O2) (y : D) (m : R D) : R D := bnd m fun w C4 => ofO (o' y w C4)
@[simp] theorem chK4_ok (o' : O2) (y w : D) (C : Store) : chK4 o' y (.ok w C) = ofO (o' y w C) := rfl
def chK3 (o' : O2) (c : ME) (F : Fr) (y : D) (m : R D) : R D := bnd m fun z C3 => match z with
  | .bl true => chK4 o' y (c F C3)
  | .bl false => .ok (.bl false) C3
  | _ => .stuck
@[simp] theorem chK3_t (o' : O2) (c : ME) (F : Fr) (y : D) (C : Store) : chK3 o' c F y (.ok (.bl true) C) = chK4 o' y (c F C) := rfl
@[simp] theorem chK3_f (o' : O2) (c : ME) (F : Fr) (y : D) (C : Store) : chK3 o' c F y (.ok (.bl false) C) = .ok (.bl false) C := rfl
def chK2 (o o' : O2) (c : ME) (F : Fr) (x : D) (m : R D) : R D := bnd m fun y C2 => chK3 o' c F y (ofO (o x y C2))
@[simp] theorem chK2_ok (o o' : O2) (c : ME) (F : Fr) (x y : D) (C : Store) : chK2 o o' c F x (.ok y C) = chK3 o' c F y (ofO (o x y C)) := rfl
def chK (o o' : O2) (b c : ME) (F : Fr) (m : R D) : R D := bnd m fun x C1 => chK2 o o' c F x (b F C1)
@[simp] theorem chK_ok (o o' : O2) (b c : ME) (F : Fr) (x : D) (C : Store) : chK o o' b c F (.ok x C) = chK2 o o' c F x (b F C) := rfl
@[simp] theorem ev_chain (o o' : O2) (a b c : ME) (F : Fr) (C : Store) : mChain o o' a b c F C = chK o o' b c F (a F C) := rfl
def seqK (b : MS) (fl : Nat) (r : RS) : RS := match r with
  | .nx sl C1 => b ⟨fl, sl⟩ C1
  | r => r
@[simp] theorem seqK_nx (b : MS) (fl : Nat) (sl : List (Option D)) (C : Store) : seqK b fl (.nx sl C) = b ⟨fl, sl⟩ C := rfl
@[simp] theorem seqK_rt (b : MS) (fl : Nat) (d : D) (C : Store) : seqK b fl (.rt d C) = .rt d C := rfl
@[simp] theorem ev_seq (a b : MS) (F : Fr) (C : Store) : sSeq a b F C = seqK b F.fl (a F C) := by
  unfold sSeq seqK
  cases a F C <;> rfl
def dropK (sl : List (Option D)) (m : R D) : RS := bndS sl m fun _ C1 => .nx sl C1
@[simp] theorem dropK_ok (sl : List (Option D)) (d : D) (C : Store) : dropK sl (.ok d C) = .nx sl C := rfl
@[simp] theorem ev_sdrop (m : ME) (F : Fr) (C : Store) : sDrop m F C = dropK F.sl (m F C) := rfl
def retK (sl : List (Option D)) (m : R D) : RS := bndS sl m fun d C1 => .rt d C1
@[simp] theorem retK_ok (sl : List (Option D)) (d : D) (C : Store) : retK sl (.ok d C) = .rt d C := rfl
@[simp] theorem ev_sret (m : ME) (F : Fr) (C : Store) : sRet m F C = retK F.sl (m F C) := rfl
def sifK (a b : MS) (F : Fr) (m : R Bool) : RS := bndS F.sl m fun x C1 => if x = true then a F C1 else b F C1
@[simp] theorem sifK_t (a b : MS) (F : Fr) (C : Store) : sifK a b F (.ok true C) = a F C := rfl
@[simp] theorem sifK_f (a b : MS) (F : Fr) (C : Store) : sifK a b F (.ok false C) = b F C := rfl
@[simp] theorem ev_sif (t : MT) (a b : MS) (F : Fr) (C : Store) : sIf t a b F C = sifK a b F (t F C) := rfl
def asgK (g : MG) (sl : List (Option D)) (m : R D) : RS := bndS sl m fun d C1 => asgS (g d sl) C1
@[simp] theorem asgK_ok (g : MG) (sl : List (Option D)) (d : D) (C : Store) : asgK g sl (.ok d C) = asgS (g d sl) C := rfl
@[simp] theorem ev_asg (m : ME) (g : MG) (F : Fr) (C : Store) : sAsg m g F C = asgK g F.sl (m F C) := rfl
def parK (is : List Nat) (sl : List (Option D)) (m : R (List D)) : RS := bndS sl m fun ds C1 => asgS (setAll is ds sl) C1
@[simp] theorem parK_ok (is : List Nat) (sl : List (Option D)) (ds : List D) (C : Store) : parK is sl (.ok ds C) = asgS (setAll is ds sl) C := rfl
@[simp] theorem ev_par (is : List Nat) (m : MA) (F : Fr) (C : Store) : sPar is m F C = parK is F.sl (m F C) := rfl
@[simp] theorem setAll_nil (sl : List (Option D)) : setAll [] [] sl = some sl := rfl
@[simp] theorem setAll_cons (i : Nat) (is : List Nat) (d : D) (ds : List D) (sl : List (Option D)) : setAll (i :: is) (d :: ds) sl = setAll is ds (sl.set i (some d)) := rfl
@[simp] theorem ev_gT (is : List Nat) (ds : List D) (sl : List (Option D)) : gT is (.tup ds) sl = setAll is ds sl := rfl
def callK (m : MF) (dds : List D) (r : R (List D)) : R D := bnd r fun ds C1 => m (ds ++ dds) C1
@[simp] theorem callK_ok (m : MF) (dds ds : List D) (C : Store) : callK m dds (.ok ds C) = m (ds ++ dds) C := rfl
@[simp] theorem ev_call (m : MF) (dds : List D) (a : MA) (F : Fr) (C : Store) : mCall m dds a F C = callK m dds (a F C) := rfl
def forK (g : MG) (body : MS) (F : Fr) (m : R ItD) : RS := bndS F.sl m fun it C1 => loopN it g body F.fl it.n 0 F.sl C1
@[simp] theorem forK_ok (g : MG) (body : MS) (F : Fr) (it : ItD) (C : Store) : forK g body F (.ok it C) = loopN it g body F.fl it.n 0 F.sl C := rfl
@[simp] theorem ev_for (mi : MI) (g : MG) (body : MS) (F : Fr) (C : Store) : sFor mi g body F C = forK g body F (mi F C) := rfl
/-! #### methods, properties, dicts -/
def mthK2 (m : MF) (dds : List D) (x : D) (r : R (List D)) : R D := bnd r fun ds C2 => m (x :: (ds ++ dds)) C2
@[simp] theorem mthK2_ok (m : MF) (dds ds : List D) (x : D) (C : Store) : mthK2 m dds x (.ok ds C) = m (x :: (ds ++ dds)) C := rfl
def mthK (c : Nat) (m : MF) (dds : List D) (a : MA) (F : Fr) (r : R D) : R D := bnd r fun x C1 => match vO x C1 with
  | some (c', _) => if c' = c then mthK2 m dds x (a F C1) else .stuck
  | none => .stuck
@[simp] theorem mthK_ok (c : Nat) (m : MF) (dds : List D) (a : MA) (F : Fr) (fs : List D) (C : Store) : mthK c m dds a F (.ok (.obj c fs) C) = mthK2 m dds (.obj c fs) (a F C) := by
  show (if c = c then mthK2 m dds (.obj c fs) (a F C) else .stuck) = _
  rw [if_pos rfl]
@[simp] theorem ev_meth (c : Nat) (m : MF) (dds : List D) (mo : ME) (a : MA) (F : Fr) (C : Store) : mMeth c m dds mo a F C = mthK c m dds a F (mo F C) := rfl
def prpK (c : Nat) (m : MF) (r : R D) : R D := bnd r fun x C1 => match vO x C1 with
  | some (c', _) => if c' = c then (match m [x] C1 with
    | .ok d C2 => .ok d C2
    | _ => .stuck) else .stuck
  | none => .stuck
@[simp] theorem ev_prop (c : Nat) (m : MF) (mo : ME) (F : Fr) (C : Store) : mProp c m mo F C = prpK c m (mo F C) := rfl
@[simp] theorem ev_fld (c n : Nat) (fs : List D) (C : Store) : oFld c n (.obj c fs) C = (fs[n]?).map fun d => (d, C) := by
  unfold oFld
  simp [vO]
def getK3 (x y : D) (m : R D) : R D := bnd m fun z C3 => ofO (oDGet x y z C3)
@[simp] theorem getK3_ok (x y z : D) (C : Store) : getK3 x y (.ok z C) = ofO (oDGet x y z C) := rfl
def getK2 (c : ME) (F : Fr) (x : D) (m : R D) : R D := bnd m fun y C2 => getK3 x y (c F C2)
@[simp] theorem getK2_ok (c : ME) (F : Fr) (x y : D) (C : Store) : getK2 c F x (.ok y C) = getK3 x y (c F C) := rfl
def getK (b c : ME) (F : Fr) (m : R D) : R D := bnd m fun x C1 => if (vD x C1).isSome = true then getK2 c F x (b F C1) else .stuck
@[simp] theorem ev_dget (a b c : ME) (F : Fr) (C : Store) : mDGet a b c F C = getK b c F (a F C) := rfl
def isiK (kn : List Nat) (t : Cc) (m : R D) : R D := bnd m fun d C1 => match isi kn d C1 t with
  | some b => .ok (.bl b) C1
  | none => .stuck
@[simp] theorem ev_isi (kn : List Nat) (t : Cc) (m : ME) (F : Fr) (C : Store) : mIsi kn t m F C = isiK kn t (m F C) := rfl
@[simp] theorem isiK_ok (kn : List Nat) (t : Cc) (d : D) (C : Store) : isiK kn t (.ok d C) = ofO ((isi kn d C t).map fun b => (.bl b, C)) := by
  show (match isi kn d C t with
    | some b => R.ok (D.bl b) C
    | none => R.stuck) = _
  cases isi kn d C t <;> rfl
/-! #### lists written -/
def stK4 (F : Fr) (v o : D) (x : D) (C3 : Store) : RS := match x, cL o C3 with
  | .int n, some (i, ds) => match ixN ds.length n with
    | some j => match wr F.fl i (.lst (ds.set j v)) C3 with
      | some C4 => .nx F.sl C4
      | none => .stuck
    | none => .stuck
  | _, _ => .stuck
def stK3 (F : Fr) (v o : D) (m : R D) : RS := bndS F.sl m fun x C3 => stK4 F v o x C3
@[simp] theorem stK3_ok (F : Fr) (v o x : D) (C : Store) : stK3 F v o (.ok x C) = stK4 F v o x C := rfl
def stK2 (mi : ME) (F : Fr) (v : D) (m : R D) : RS := bndS F.sl m fun o C2 => stK3 F v o (mi F C2)
@[simp] theorem stK2_ok (mi : ME) (F : Fr) (v o : D) (C : Store) : stK2 mi F v (.ok o C) = stK3 F v o (mi F C) := rfl
def stK (mo mi : ME) (F : Fr) (m : R D) : RS := bndS F.sl m fun v C1 => stK2 mi F v (mo F C1)
@[simp] theorem stK_ok (mo mi : ME) (F : Fr) (v : D) (C : Store) : stK mo mi F (.ok v C) = stK2 mi F v (mo F C) := rfl
@[simp] theorem ev_setL (me mo mi : ME) (F : Fr) (C : Store) : sSetL me mo mi F C = stK mo mi F (me F C) := rfl
def auK4 (o : Int → Int → Int) (F : Fr) (l : D) (n a : Int) (v : D) (C3 : Store) : RS := match v, cL l C3 with
  | .int b, some (i, es) => (match ixN es.length n with
    | some j => (match wr F.fl i (.lst (es.set j (.int (o a b)))) C3 with
      | some C4 => .nx F.sl C4
      | none => .stuck)
    | none => .stuck)
  | _, _ => .stuck
def auK3 (o : Int → Int → Int) (F : Fr) (l : D) (n a : Int) (m : R D) : RS := bndS F.sl m fun v C3 => auK4 o F l n a v C3
@[simp] theorem auK3_ok (o : Int → Int → Int) (F : Fr) (l : D) (n a : Int) (v : D) (C : Store) : auK3 o F l n a (.ok v C) = auK4 o F l n a v C := rfl
def auK2 (o : Int → Int → Int) (me : ME) (F : Fr) (l : D) (x : D) (C2 : Store) : RS := match x, cL l C2 with
  | .int n, some (_, ds) => if 0 ≤ n then (match ds[n.toNat]? with
    | some (.int a) => auK3 o F l n a (me F C2)
    | _ => .stuck) else .stuck
  | _, _ => .stuck
def auK1 (o : Int → Int → Int) (me : ME) (F : Fr) (l : D) (m : R D) : RS := bndS F.sl m fun x C2 => auK2 o me F l x C2
@[simp] theorem auK1_ok (o : Int → Int → Int) (me : ME) (F : Fr) (l x : D) (C : Store) : auK1 o me F l (.ok x C) = auK2 o me F l x C := rfl
def auK (o : Int → Int → Int) (mi me : ME) (F : Fr) (m : R D) : RS := bndS F.sl m fun l C1 => auK1 o me F l (mi F C1)
@[simp] theorem auK_ok (o : Int → Int → Int) (mi me : ME) (F : Fr) (l : D) (C : Store) : auK o mi me F (.ok l C) = auK1 o me F l (mi F C) := rfl
@[simp] theorem ev_augL (o : Int → Int → Int) (mo mi me : ME) (F : Fr) (C : Store) : sAugL o mo mi me F C = auK o mi me F (mo F C) := rfl
@[simp] theorem cbL_ints (n : Nat) : ∀ cs : List Int, cbL n (cs.map D.int) = true
  | [] => rfl
  | c :: cs => by
    show (cb n (.int c) && cbL n (cs.map D.int)) = true
    rw [cbL_ints n cs]
    rfl
end
end CT
set_option maxHeartbeats 4000000
/-! DLT: sorted(set(xs)) of ints, len(set(xs)) of tuples of ints. -/
namespace CT
open PySem L2 PySem.Spec PyProof.Rows
/-! ### unlike members, ascending -/
/-! ### unlike rows -/
/-! ### the calls -/
/-! ### over data -/
end CT
set_option maxHeartbeats 4000000
/-! DLU: repr of an empty dict. -/
namespace CT
open PySem L2 PySem.Spec PyProof.Rows
end CT
set_option maxHeartbeats 4000000
/-! DLV: l.count(x) over data. -/
namespace CT
open PySem L2 PySem.Spec PyProof.Rows
end CT
set_option maxHeartbeats 4000000
/-! DLW: a class whose __init__ takes *numbers and a keyword. -/
namespace CT
open PySem L2 PySem.Spec PyProof.Rows
abbrev tupO (its : List Value) : Obj := { cls := .type "tuple", data := .seq its.toArray }
abbrev pushT (s : Shared) (its : List Value) : Shared := { s with heap := s.heap.push (tupO its) }
/-- binding makes a tuple of the rest -/
def BindsW (s : Shared) (fd : FuncData) (args : Args) (binds : List (Str × Value)) (its : List Value) : Prop :=
  ∀ (M : Model) (A : Around) (E : Value → Shared → Prop) (Q : List (Str × Value) → Shared → Prop), Q binds (pushT s its) → wpAny M A (bindArgs fd args) Q E s
structure FnW (P : Program) (w : World) (K : PySem.W.Frag) (mg : Str → Option Value) (base : Heap) (lev : Nat) (f : Addr) (fd : FuncData) (ps : List Str) (sp : Sp) : Prop where
  len : ∀ vs H Q E, sp vs H Q E → vs.length = ps.length
  run : ∀ (A : Around) (outer : List Env) (s : Shared) (H : Hp) (args : Args) (us its : List Value) (vs ws : List V) (Q : VK) (E : XK), RoomG lev A → Env0 P w K mg base A outer s H → its.length ≤ sizeLine → Vals ws its → BindsW s fd args (ps.zip us) its → Vals vs us → sp vs (upd H s.heap.objs.size (.tup ws)) Q E →
    codeAny (model P w) A (.call (.ref f) args) (CR (L2N.CX P w) outer P w H s Q E) s
/-! ### C(e, ..), C(k = e) -/
/-- what the call's arguments become: the keyword's value, the rest -/
inductive Vg where
  | pos | kw
def Vg.v : Vg → List V → V × List V
  | .pos, ds => (.non, ds)
  | .kw, ds => (ds.headD .non, [])
end CT
set_option maxHeartbeats 4000000
/-! DLX: len(set(t)) of a tuple of ints; sorted(t); str(n), f-strings, join. -/
namespace CT
open PySem L2 PySem.Spec PyProof.Rows
/-! ### len(set(t)) -/
/-! ### sorted(t) -/
end CT
set_option maxHeartbeats 4000000
/-! DLY: sorted of lists or tuples; str(n), f-strings, join; str(o) by the class's own __str__. -/
namespace CT
open PySem L2 PySem.Spec PyProof.Rows
end CT
set_option maxHeartbeats 4000000
/-! DLZ: binding of *numbers and a keyword that is None by itself. -/
namespace CT
open PySem L2 PySem.Spec PyProof.Rows
end CT
set_option maxHeartbeats 4000000
/-! DM1: classmethods (C.m(..), cls(k = e)); + of texts. -/
namespace CT
open PySem L2 PySem.Spec PyProof.Rows
end CT
set_option maxHeartbeats 4000000
/-! DM2: the head's Hook where attributes of classes are read. -/
namespace CT
open PySem L2 PySem.Spec PyProof.Rows
end CT
set_option maxHeartbeats 8000000
set_option pp.maxSteps 60
namespace CL
open PySem L2 PySem.Spec PyProof.Rows CT
def top (i : Nat) : Stmt := PySem.Challenge.pw_contentties_k27_whole_webs_add_up.main.body.getD i (.Pass ⟨0, 0, 0, 0⟩)
def mem (i j : Nat) : Stmt := match top i with
  | .ClassDef _ _ _ b _ _ _ _ _ _ _ => b.getD j (.Pass ⟨0, 0, 0, 0⟩)
  | s => s
def clA (K : PySem.W.Frag) (c : Nat) : Addr := match c with
  | 0 => He.ga K "Web"
  | 2 => He.ga K "TooMany"
  | 3 => He.ga K "TooFew"
  | 4 => He.ga K "Unequal"
  | _ => 0
abbrev s_TooMany__init : Stmt := mem 4 0
abbrev a_TooMany__init (K : PySem.W.Frag) : Addr := He.ma K (He.ga K "TooMany") "__init__"
abbrev s_TooFew__init : Stmt := mem 6 0
abbrev a_TooFew__init (K : PySem.W.Frag) : Addr := He.ma K (He.ga K "TooFew") "__init__"
abbrev s_Unequal__init : Stmt := mem 7 0
abbrev a_Unequal__init (K : PySem.W.Frag) : Addr := He.ma K (He.ga K "Unequal") "__init__"
abbrev s_is_integer : Stmt := top 10
abbrev a_is_integer (K : PySem.W.Frag) : Addr := He.ga K "is_integer"
abbrev s_is_count : Stmt := top 11
abbrev a_is_count (K : PySem.W.Frag) : Addr := He.ga K "is_count"
abbrev s_is_tie : Stmt := top 13
abbrev a_is_tie (K : PySem.W.Frag) : Addr := He.ga K "is_tie"
abbrev s_summed : Stmt := top 14
abbrev a_summed (K : PySem.W.Frag) : Addr := He.ga K "summed"
abbrev s_grid_of : Stmt := top 15
abbrev a_grid_of (K : PySem.W.Frag) : Addr := He.ga K "grid_of"
abbrev s_Web__init : Stmt := mem 16 0
abbrev a_Web__init (K : PySem.W.Frag) : Addr := He.ma K (He.ga K "Web") "__init__"
abbrev s_Web_total : Stmt := mem 16 1
abbrev a_Web_total (K : PySem.W.Frag) : Addr := prG K (He.ga K "Web") "total"
abbrev s_Web_degrees : Stmt := mem 16 2
abbrev a_Web_degrees (K : PySem.W.Frag) : Addr := prG K (He.ga K "Web") "degrees"
abbrev s_Web__getitem : Stmt := mem 16 3
abbrev a_Web__getitem (K : PySem.W.Frag) : Addr := He.ma K (He.ga K "Web") "__getitem__"
abbrev s_Web__eq : Stmt := mem 16 5
abbrev a_Web__eq (K : PySem.W.Frag) : Addr := He.ma K (He.ga K "Web") "__eq__"
abbrev s_Web__add : Stmt := mem 16 6
abbrev a_Web__add (K : PySem.W.Frag) : Addr := He.ma K (He.ga K "Web") "__add__"
abbrev s_Web__sub : Stmt := mem 16 7
abbrev a_Web__sub (K : PySem.W.Frag) : Addr := He.ma K (He.ga K "Web") "__sub__"
abbrev s_Web__mul : Stmt := mem 16 8
abbrev a_Web__mul (K : PySem.W.Frag) : Addr := He.ma K (He.ga K "Web") "__mul__"
abbrev s_Web__rmul : Stmt := mem 16 9
abbrev a_Web__rmul (K : PySem.W.Frag) : Addr := He.ma K (He.ga K "Web") "__rmul__"
abbrev s_Web_within : Stmt := mem 16 10
abbrev a_Web_within (K : PySem.W.Frag) : Addr := He.ma K (He.ga K "Web") "within"
abbrev s_Web_crossing : Stmt := mem 16 12
abbrev a_Web_crossing (K : PySem.W.Frag) : Addr := He.ma K (He.ga K "Web") "crossing"
abbrev s_beside : Stmt := top 18
abbrev a_beside (K : PySem.W.Frag) : Addr := He.ga K "beside"
abbrev s_renamed : Stmt := top 19
abbrev a_renamed (K : PySem.W.Frag) : Addr := He.ga K "renamed"
abbrev s_moved : Stmt := top 20
abbrev a_moved (K : PySem.W.Frag) : Addr := He.ga K "moved"
abbrev s_law_bag : Stmt := top 22
abbrev a_law_bag (K : PySem.W.Frag) : Addr := He.ga K "_law_bag"
abbrev s_law_take : Stmt := top 23
abbrev a_law_take (K : PySem.W.Frag) : Addr := He.ga K "_law_take"
abbrev s_law_mixed : Stmt := top 24
abbrev a_law_mixed (K : PySem.W.Frag) : Addr := He.ga K "_law_mixed"
abbrev s_law_web : Stmt := top 25
abbrev a_law_web (K : PySem.W.Frag) : Addr := He.ga K "_law_web"
abbrev s_law_sum : Stmt := top 26
abbrev a_law_sum (K : PySem.W.Frag) : Addr := He.ga K "_law_sum"
abbrev s_law_fits : Stmt := top 27
abbrev a_law_fits (K : PySem.W.Frag) : Addr := He.ga K "_law_fits"
abbrev s_law_counts_right : Stmt := top 28
abbrev a_law_counts_right (K : PySem.W.Frag) : Addr := He.ga K "_law_counts_right"
abbrev s_law_sums_right : Stmt := top 29
abbrev a_law_sums_right (K : PySem.W.Frag) : Addr := He.ga K "_law_sums_right"
abbrev s_law : Stmt := top 30
abbrev a_law (K : PySem.W.Frag) : Addr := He.ga K "law"
def d_Web__init (K : PySem.W.Frag) : Addr := He.dflAt ("Web", some "__init__") 0 K
def fs : List (PySem.W.Frag → Bool) := [(He.Fa.free "abs").ok,
  (He.Fa.free "all").ok,
  (He.Fa.free "any").ok,
  (He.Fa.free "bool").ok,
  (He.Fa.free "enumerate").ok,
  (He.Fa.free "int").ok,
  (He.Fa.free "isinstance").ok,
  (He.Fa.free "len").ok,
  (He.Fa.free "list").ok,
  (He.Fa.free "max").ok,
  (He.Fa.free "min").ok,
  (He.Fa.free "range").ok,
  (He.Fa.free "repr").ok,
  (He.Fa.free "sum").ok,
  (He.Fa.free "tuple").ok,
  (He.Fa.free "zip").ok,
  (He.Fa.int "MOST" 1000000000).ok,
  (He.Fa.glo "is_integer").ok,
  (He.Fa.glo "is_count").ok,
  (He.Fa.glo "is_tie").ok,
  (He.Fa.glo "summed").ok,
  (He.Fa.glo "grid_of").ok,
  (He.Fa.glo "beside").ok,
  (He.Fa.glo "renamed").ok,
  (He.Fa.glo "moved").ok,
  (He.Fa.glo "_law_bag").ok,
  (He.Fa.glo "_law_take").ok,
  (He.Fa.glo "_law_mixed").ok,
  (He.Fa.glo "_law_web").ok,
  (He.Fa.glo "_law_sum").ok,
  (He.Fa.glo "_law_fits").ok,
  (He.Fa.glo "_law_counts_right").ok,
  (He.Fa.glo "_law_sums_right").ok,
  (He.Fa.glo "law").ok,
  (He.Fa.glo "Web").ok,
  (He.Fa.cls "Web").ok,
  (He.Fa.noat "Web" "size").ok,
  (He.Fa.noat "Web" "grid").ok,
  (He.Fa.noat "Web" "ties").ok,
  (He.Fa.mkr "Web").ok,
  ktB d_Web__init,
  prB "Web" "total",
  prB "Web" "degrees",
  dnB "Web" "__getitem__",
  dnB "Web" "__eq__",
  dnB "Web" "__add__",
  dnB "Web" "__sub__",
  dnB "Web" "__mul__",
  dnB "Web" "__rmul__",
  (He.Fa.meth "Web" "within").ok,
  (He.Fa.meth "Web" "crossing").ok,
  (He.Fa.glo "TooMany").ok,
  xiB "TooMany",
  (He.Fa.noat "TooMany" "limit").ok,
  (He.Fa.glo "TooFew").ok,
  xiB "TooFew",
  (He.Fa.noat "TooFew" "pair").ok,
  (He.Fa.glo "Unequal").ok,
  xiB "Unequal",
  (He.Fa.noat "Unequal" "other").ok,
  (He.Fa.noat "Unequal" "one").ok,
  exmB clA "TooFew" [3] [2, 4],
  xsB clA [2, 3, 4],
  eqB "Web",
  mulB "Web",
  sfB "Web",
  isaB clA [0]]
def dx_TooMany__init : DefX := ⟨a_TooMany__init, "__init__", "TooMany.__init__", defArgs s_TooMany__init, defBody s_TooMany__init, defScope s_TooMany__init, fun _ => []⟩
def dx_TooFew__init : DefX := ⟨a_TooFew__init, "__init__", "TooFew.__init__", defArgs s_TooFew__init, defBody s_TooFew__init, defScope s_TooFew__init, fun _ => []⟩
def dx_Unequal__init : DefX := ⟨a_Unequal__init, "__init__", "Unequal.__init__", defArgs s_Unequal__init, defBody s_Unequal__init, defScope s_Unequal__init, fun _ => []⟩
def dx_is_integer : DefX := ⟨a_is_integer, "is_integer", "is_integer", defArgs s_is_integer, defBody s_is_integer, defScope s_is_integer, fun _ => []⟩
def dx_is_count : DefX := ⟨a_is_count, "is_count", "is_count", defArgs s_is_count, defBody s_is_count, defScope s_is_count, fun _ => []⟩
def dx_is_tie : DefX := ⟨a_is_tie, "is_tie", "is_tie", defArgs s_is_tie, defBody s_is_tie, defScope s_is_tie, fun _ => []⟩
def dx_summed : DefX := ⟨a_summed, "summed", "summed", defArgs s_summed, defBody s_summed, defScope s_summed, fun _ => []⟩
def dx_grid_of : DefX := ⟨a_grid_of, "grid_of", "grid_of", defArgs s_grid_of, defBody s_grid_of, defScope s_grid_of, fun _ => []⟩
def dx_Web__init : DefX := ⟨a_Web__init, "__init__", "Web.__init__", defArgs s_Web__init, defBody s_Web__init, defScope s_Web__init, fun K => [V.ref (d_Web__init K)]⟩
def dx_Web_total : DefX := ⟨a_Web_total, "total", "Web.total", defArgs s_Web_total, defBody s_Web_total, defScope s_Web_total, fun _ => []⟩
def dx_Web_degrees : DefX := ⟨a_Web_degrees, "degrees", "Web.degrees", defArgs s_Web_degrees, defBody s_Web_degrees, defScope s_Web_degrees, fun _ => []⟩
def dx_Web__getitem : DefX := ⟨a_Web__getitem, "__getitem__", "Web.__getitem__", defArgs s_Web__getitem, defBody s_Web__getitem, defScope s_Web__getitem, fun _ => []⟩
def dx_Web__eq : DefX := ⟨a_Web__eq, "__eq__", "Web.__eq__", defArgs s_Web__eq, defBody s_Web__eq, defScope s_Web__eq, fun _ => []⟩
def dx_Web__add : DefX := ⟨a_Web__add, "__add__", "Web.__add__", defArgs s_Web__add, defBody s_Web__add, defScope s_Web__add, fun _ => []⟩
def dx_Web__sub : DefX := ⟨a_Web__sub, "__sub__", "Web.__sub__", defArgs s_Web__sub, defBody s_Web__sub, defScope s_Web__sub, fun _ => []⟩
def dx_Web__mul : DefX := ⟨a_Web__mul, "__mul__", "Web.__mul__", defArgs s_Web__mul, defBody s_Web__mul, defScope s_Web__mul, fun _ => []⟩
def dx_Web__rmul : DefX := ⟨a_Web__rmul, "__rmul__", "Web.__rmul__", defArgs s_Web__rmul, defBody s_Web__rmul, defScope s_Web__rmul, fun _ => []⟩
def dx_Web_within : DefX := ⟨a_Web_within, "within", "Web.within", defArgs s_Web_within, defBody s_Web_within, defScope s_Web_within, fun _ => []⟩
def dx_Web_crossing : DefX := ⟨a_Web_crossing, "crossing", "Web.crossing", defArgs s_Web_crossing, defBody s_Web_crossing, defScope s_Web_crossing, fun _ => []⟩
def dx_beside : DefX := ⟨a_beside, "beside", "beside", defArgs s_beside, defBody s_beside, defScope s_beside, fun _ => []⟩
def dx_renamed : DefX := ⟨a_renamed, "renamed", "renamed", defArgs s_renamed, defBody s_renamed, defScope s_renamed, fun _ => []⟩
def dx_moved : DefX := ⟨a_moved, "moved", "moved", defArgs s_moved, defBody s_moved, defScope s_moved, fun _ => []⟩
def dx_law_bag : DefX := ⟨a_law_bag, "_law_bag", "_law_bag", defArgs s_law_bag, defBody s_law_bag, defScope s_law_bag, fun _ => []⟩
def dx_law_take : DefX := ⟨a_law_take, "_law_take", "_law_take", defArgs s_law_take, defBody s_law_take, defScope s_law_take, fun _ => []⟩
def dx_law_mixed : DefX := ⟨a_law_mixed, "_law_mixed", "_law_mixed", defArgs s_law_mixed, defBody s_law_mixed, defScope s_law_mixed, fun _ => []⟩
def dx_law_web : DefX := ⟨a_law_web, "_law_web", "_law_web", defArgs s_law_web, defBody s_law_web, defScope s_law_web, fun _ => []⟩
def dx_law_sum : DefX := ⟨a_law_sum, "_law_sum", "_law_sum", defArgs s_law_sum, defBody s_law_sum, defScope s_law_sum, fun _ => []⟩
def dx_law_fits : DefX := ⟨a_law_fits, "_law_fits", "_law_fits", defArgs s_law_fits, defBody s_law_fits, defScope s_law_fits, fun _ => []⟩
def dx_law_counts_right : DefX := ⟨a_law_counts_right, "_law_counts_right", "_law_counts_right", defArgs s_law_counts_right, defBody s_law_counts_right, defScope s_law_counts_right, fun _ => []⟩
def dx_law_sums_right : DefX := ⟨a_law_sums_right, "_law_sums_right", "_law_sums_right", defArgs s_law_sums_right, defBody s_law_sums_right, defScope s_law_sums_right, fun _ => []⟩
def dx_law : DefX := ⟨a_law, "law", "law", defArgs s_law, defBody s_law, defScope s_law, fun _ => []⟩
def fn : List DefX := [dx_TooMany__init, dx_TooFew__init, dx_Unequal__init, dx_is_integer, dx_is_count, dx_is_tie, dx_summed, dx_grid_of, dx_Web__init, dx_Web_total, dx_Web_degrees, dx_Web__getitem, dx_Web__eq, dx_Web__add, dx_Web__sub, dx_Web__mul, dx_Web__rmul, dx_Web_within, dx_Web_crossing, dx_beside, dx_renamed, dx_moved, dx_law_bag, dx_law_take, dx_law_mixed, dx_law_web, dx_law_sum, dx_law_fits, dx_law_counts_right, dx_law_sums_right, dx_law]
end CL
set_option maxHeartbeats 4000000
/-! DM28: the head's Hook, its objects gathered by a walk that marks what it has seen in one number. -/
namespace CT
open PySem L2 PySem.Spec PyProof.Rows
/-- the addresses that are not marked, each once -/
def erB : Nat → List Addr → List Addr
  | _, [] => []
  | seen, a :: r => match Nat.beq (Nat.land (Nat.shiftRight seen a) 1) 1 with
    | true => erB seen r
    | false => a :: erB (Nat.lor seen (Nat.shiftLeft 1 a)) r
def mkB : Nat → List Addr → Nat
  | seen, [] => seen
  | seen, a :: r => mkB (Nat.lor seen (Nat.shiftLeft 1 a)) r
def nxB (g : Addr → Option Obj) : List Addr → List Addr
  | [] => []
  | a :: r => (match g a with
    | some o => He.refsD o
    | none => []) ++ nxB g r
def digB (g : Addr → Option Obj) : Nat → Nat → List Addr → List Addr
  | 0, _, _ => []
  | n + 1, seen, f => (fun t => t ++ digB g n (mkB seen t) t) (erB seen (nxB g f))
def agB (g : Addr → Option Obj) (n : Nat) : List Addr := mainGlobals :: (digB g n (Nat.shiftLeft 1 mainGlobals) [mainGlobals] ++ [cStatics])
def obGb (n : Nat) (fs : List (PySem.W.Frag → Bool)) (fn : List DefX) (g : Addr → Option Obj) : AlX := obX fs fn (He.frG g (agB g n))
def hookXb (n : Nat) (fs : List (PySem.W.Frag → Bool)) (fn : List DefX) : PySem.W.Hook where
  α := AlX
  obs := fun s => obGb n fs fn s.heap.get?
  val := fun _ => vlX fn
  says := fun _ h => ∃ K : PySem.W.Frag, K.In h ∧ SaysX fs fn K
  of := fun _ _ e => ⟨_, He.frG_in, e⟩
  keeps := fun _ _ _ ⟨K, hK, c⟩ k => ⟨K, PySem.W.Frag.In.keeps hK k, c⟩
end CT
set_option maxHeartbeats 0
namespace CL
open PySem L2 PySem.Spec PyProof.Rows CT
abbrev RR : PySem.W.OpenRow := PySem.W.OpenLaw.row PySem.Challenge.rw_contentties_k27_whole_webs_add_up
abbrev hk : PySem.W.Hook := hookXb 6 fs fn
def ob (s : PySem.W.SharedT) : AlX := obGb 6 fs fn (HandSHeadRun.getT s)
def loose : List Str := (["_wall", "ContentError", "Wrong", "TooMany", "BadTie", "TooFew", "Unequal", "MOST", "is_integer", "is_count", "is_tie", "summed", "grid_of", "Web", "beside", "renamed"] : List Str) ++ (["moved", "_law_bag", "_law_take", "_law_mixed", "_law_web", "_law_sum", "_law_fits", "_law_counts_right", "_law_sums_right"] : List Str)
section
open HandSHeadRun PySem.W PySem.Calls
theorem run_looks (w : World) (os : OsState) : (HandSHeadRun.endF (HandSHeadRun.stepQ (HandSHeadRun.denQ HandSHeadRun.tabQ) RR.prog w) 20000 RR.prog w os).map (fun s => HandSHeadRun.looksF RR.prog (boot_heap w.params) s.abs) = some (true) := by kernel_rfl
theorem run_seen (w : World) (os : OsState) : (HandSHeadRun.endF (HandSHeadRun.stepQ (HandSHeadRun.denQ HandSHeadRun.tabQ) RR.prog w) 20000 RR.prog w os).map (fun s => HandSHeadRun.seenQ (PySem.W.view RR.prog [30]) loose (importedModules RR.prog.main.body) (fun s => xlAt (PySem.W.view RR.prog [30]) [] s && recOk RR.toRowW.records s) s.abs) = some (openGood (PySem.W.view RR.prog [30]) loose) := by kernel_rfl
theorem run_ob (w : World) (os : OsState) : (HandSHeadRun.endF (HandSHeadRun.stepQ (HandSHeadRun.denQ HandSHeadRun.tabQ) RR.prog w) 20000 RR.prog w os).map (ob) = some (hk.val w) := by kernel_rfl
theorem opt3 {α β γ : Type _} {δ : Type _} {x : Option α} {f : α → β} {g : α → γ} {h : α → δ} {a : β} {b : γ} {c : δ} (h1 : x.map f = some a) (h2 : x.map g = some b) (h3 : x.map h = some c) : x.map (fun s => (f s, g s, h s)) = some (a, b, c) := by
  cases x with
  | none => cases h1
  | some s =>
    have e1 : f s = a := Option.some.inj h1
    have e2 : g s = b := Option.some.inj h2
    have e3 : h s = c := Option.some.inj h3
    show some (f s, g s, h s) = some (a, b, c)
    rw [e1, e2, e3]
end
theorem run (w : World) : HandSHeadRun.RunEq RR (PySem.W.view RR.prog [30]) hk ob 20000 loose w := by
  intro os
  have z := opt3 (run_looks w os) (run_seen w os) (run_ob w os)
  exact z
end CL
/-! DM3: is True; t * n; bool(o) by the class's own __bool__; a or b of tuples, bool(t). -/
namespace CT
/-! ### t * n -/
/-! ### a or b of tuples; bool(t) -/
end CT
/-! DM4: bool(o) by the class's own __bool__. -/
namespace CT
/-! ### bool(o) -/
end CT
/-! DM5: zip of two tuples; min and max of a list of ints with a default. -/
namespace CT
end CT
/-! DM6: min and max of a list of ints with a default. -/
namespace CT
end CT
/-! DM7: x + k, k + x, x - k, k - x, -x for an own x and an int k. -/
namespace CT
end CT
/-! DM8: list(range(a, b, 2)); sorted(set(xs)), len(set(xs)) of up to 4,000 ints. -/
namespace CT
/-! ### sets of more ints -/
end CT
/-! DM9: xs[i], ys[j] = e, f. -/
namespace CT
end CT
/-! DM10: a def that hands back an own list, as an equation. -/
namespace CT
end CT
/-! DM11: {x for u in a if .. for x in b if ..} of ints, two clauses; its members in a list beside the heap. -/
namespace CT
end CT
/-! DM12: sorted({x for u in a if .. for x in b if ..}) over data. -/
namespace CT
end CT
/-! DM13: min and max of one list of ints, not empty. -/
namespace CT
end CT
/-! DM14: in, not in by an own __contains__, as values and as tests. -/
namespace CT
end CT
/-! DM15: == and != of two lists of own objects that are equal item by item. -/
namespace CT
end CT
/-! DM16: an own object as a test, by the class's own __bool__. -/
namespace CT
end CT
/-! DM17: xs.reverse(). -/
namespace CT
end CT
/-! DM18: while, of at most so many turns. -/
namespace CT
end CT
/-! DM19: a def that hands back data with own lists and dicts inside: all become plain data. -/
namespace CT
end CT
/-! DM20: == of two tuples of own objects that are equal item by item. -/
namespace CT
end CT
/-! DM21: sum of a tuple of ints. -/
namespace CT
end CT
/-! DM22: try with several clauses, each with a name (the same slot); each clause's suite returns. -/
namespace CT
/-! ### repr in a clause's suite -/
end CT
/-! DM23: x += y, x -= y of a name that holds an instance with an own __iadd__, __isub__. -/
namespace CT
end CT
/-! DM24a: what the head says for DM24. -/
namespace CT
end CT
/-! DM24: x[i] = v, x[i] += v by own __getitem__, __setitem__; == and != with an instance of another own class. -/
namespace CT
end CT
/-! DM25: sorted(set(list of pairs of ints from 0 to 63)); list(d) of a dict with tuple keys. -/
namespace CT
/-! ### list(d) -/
end CT
/-! DM32: d[k] += e on a dict with tuple keys; x *= e of ints. -/
namespace CT
end CT
/-! DM33: zip of two sequences, each a list or a tuple. -/
namespace CT
end CT
/-! DM34: max of three integers; len of a dict keyed by tuples; sorted of a dict whose only key is the empty tuple. -/
namespace CT
/-! ### sorted: the empty tuple alone -/
end CT
/-! DM35: zip of two sequences, own lists too: what stands in them is read at each turn. -/
namespace CT
end CT
/-! DM36: sorted(set(t)): a tuple of integers. -/
namespace CT
end CT
/-! DH1: within an except suite: (a, b) = e; own defs called. -/
namespace CT
/-! ### defs -/
/-! ### calls -/
/-! ### a if t else b, where its truth is asked -/
end CT
/-! E2: loops, comprehensions, dicts worked out. -/
namespace CT
/-! ### comprehensions that change nothing -/
/-! ### two clauses -/
/-! ### dicts from pairs to numbers -/
end CT
/-! E3: walks over cells; own operators worked out. -/
namespace CT
/-! ### own operators -/
end CT
/-! M2: sums of ties, grids, webs. -/
/-! M3: a web is made. -/
/-! M4: Web(size, ties). -/
/-! M5: Web(size, ties), made. -/
/-! M6: the instance. -/
/-! M7: total, degrees, within, changed, crossing. -/
/-! M9: plain facts on sums. -/
/-! M10: a dict's keys in order; _law_made. -/
/-! M11: what repr may be asked of. -/
/-! M12: the ties in order; degrees. -/
/-! M13: _law_web_is, its first parts. -/
/-! M16: degrees add up to twice the total. -/
/-! M18: what is told, as data. -/
/-! M19: bounds of what is told. -/
/-! M20: _law_web_is of the web of a dict. -/
/-! M22: the bag. -/
/-! M23: draws from a bag that lies below other cells; lists of the def's own. -/
/-! M24: _law_mixed. -/
/-! N25a: sums of items (split from N25). -/
/-! O1c: counts of anything (split from O1). -/
/-! E4: what a run must lead to, told backwards. -/
namespace CT
/-! ### results -/
/-! ### expressions -/
/-! ### operators -/
/-! ### statements -/
/-! ### loops -/
/-! ### comprehensions -/
end CT
/-! E5: more steps told backwards. -/
namespace CT
/-! ### writing -/
end CT
/-! E6: walks and comprehensions, step by step. -/
namespace CT
end CT
/-! Q0: a web's fields. -/
/-! E7: own operators with an int, list(range), extend, two writes, told backwards. -/
namespace CT
/-! ### a comprehension whose list is an own one -/
/-! ### a def that hands back an own list -/
end CT
/-! O2e: web == x. -/
/-! M7: degrees. -/
/-! M7: total, degrees, within, changed, crossing. -/
/-! N7b: within. -/
/-! E9: comprehensions and walks over lists of values that are written as data. -/
namespace CT
/-! ### x *= e, d[k] += e -/
end CT
/-! M24: _law_mixed. -/
set_option Elab.async false
set_option linter.all false
set_option maxRecDepth 100000
set_option maxHeartbeats 4000000
/-! DL0: errors whose context is None: the layer's names stand for those of L2N. -/
namespace CT
open PySem
open L2
abbrev Takes (X : Cx) (W : WX) : Prop := L2N.Takes X W
abbrev PMk (X : Cx) (e : Expr) (t : L2.St → Hp → XK → Prop) : Prop := L2N.PMk X e t
theorem Takes.imp {X : Cx} {W W' : WX} (t : Takes X W) (h : ∀ c d σ H, W' c d σ H → W c d σ H) : Takes X W' := L2N.Takes.imp t h
theorem passAt {X : Cx} {W : WX} (tk : Takes X W) (σ : L2.St) : PassesAt (L2N.CX X.prog X.w) X σ (WE W σ) := L2N.passAt tk σ
theorem ps_raise {X : Cx} {W : WX} {e : Expr} {t : L2.St → Hp → XK → Prop} {pos : Pos} (hc : X.calm = true) (tk : Takes X W) (he : PMk X e t) : PS X (.Raise (some e) none pos) (fun _ σ H => t σ H fun cls d H' => W cls d σ H') := L2N.ps_raise hc tk he
theorem takes_of {X : Cx} {E : XK} (hs : X.stack = X.env :: X.outer) (hf : X.env.frame = some X.env.locals) (hex : X.ex = []) {E₁ : Value → Shared → Prop}
    (hx : X.xe = fun e s' => wpAny (model X.prog X.w) X.A (leaving X.env e) (fun _ s'' => L2N.CX X.prog X.w X.outer X.H_0 X.s_0 E e s'') E₁ s') : Takes X (fun cls d _ H => E cls d H) := L2N.takes_of hs hf hex hx
theorem ps_try_as {X : Cx} {x n : Str} {c : Value} {i : Nat} {body suite : List Stmt} {b₀ : Stmt} {np pos pos' : Pos} {tb : WX → TS} {ts : Addr → Value → Option Addr → TS} {Wout : WX}
    (hs : X.stack = X.env :: X.outer) (hf : X.env.frame = some X.env.locals) (hN : X.N.Nodup) (hi : X.N[i]? = some n) (hln : X.env.kindOf n = some .local) (hc : Names X x c) (tk : Takes X Wout)
    (hb : ∀ (W : WX) (pn : List (Addr × Obj)) (xe : Value → Shared → Prop), Takes (X.tr pn xe) W → PassesOwn (model X.prog X.w) X.A X.env xe → PSs (X.tr pn xe) body (tb W))
    (hsu : ∀ (a : Addr) (oe : Obj) (cls : Value) (d : Option Addr) (pn : List (Addr × Obj)), L2N.Zn cls d oe → (∃ vs, oe.data = .fields vs) → PSs (X.suite a ((a, oe) :: pn)) (b₀ :: suite) (ts a cls d)) :
    PS X (.Try body [.ExceptHandler (some (.Name x np)) (some n) (b₀ :: suite) pos'] [] [] pos) (fun D σ H => tb (wAs X.K c i ts Wout D) D σ H) := L2N.ps_try_as hs hf hN hi hln hc tk hb hsu
abbrev Zc (cls : Value) (d : Option Addr) : Obj → Prop := L2N.Zn cls d
end CT
namespace CT
open PySem L2 PySem.Spec PyProof.Rows
section
variable {X : Cx} {e : Expr} {es : List Expr} {ta : TA} {p pos : Pos}
/-- C(e, ..) of an error class with an own __init__: its context is None -/
theorem pmk_oex {CX : CXT} {x : Str} {C fI : Addr} {k : Nat} {fd : FuncData} {ps : List Str} {sp : Sp} {ds : List Value} {dvs : List V} (T : OexC X.K C) (iC : PySem.W.findIn X.K (.ref C) "__init__" = some (some (.ref fI))) (tI : PySem.W.typeIn X.K (.ref fI) = some (.type "function"))
    (F1 : FnOk X.prog X.w X.K X.mg X.base CX k fI fd ps sp) (hr : Room (k + 1) X.A) (hb : Binds X.K fd ps ds) (hd : Vals dvs ds) (hx : Passes CX X (fun _ _ _ => False)) (hg : Gl X x) (hm : X.mg x = some (.ref C)) (ha : PA X (e :: es) ta)
    (hdb : (x == ("__debug__" : Str)) = false := by decide) (he : starEach (e :: es) X.env = (false, eval e X.env) :: starEach es X.env := by rfl) (hpl : (backTo pos (starEach es X.env)).any (·.1) = false := by rfl) :
    PMk X (.Call (.Name x p) (e :: es) [] pos) (tMkO C sp dvs ta) := by
  intro pins s σ H Q I h
  obtain ⟨nm, q, N, bs, bm, sn, sub, ab, col, dd, k0, k1, k2, k3, k5, hC, hbm⟩ := T.cls
  refine wpAny_Call_Name_kw (ld_glob I hg hm ?_ hdb)
  refine PySem.W.callWith_K (h₀ := X.base) I.ok.mod.kin T.kC (thn (ha.run pos pins s σ H _ I h) fun us s1 ⟨vs, H1, I1, r1, hz, q1⟩ => ⟨I1.kIn, ?_⟩) he hpl
  show wpAny _ _ (call (.ref C) us) _ _ _
  obtain ⟨hp, g, dr, tk, os⟩ := s1
  have hsz : hp.objs.size ≤ hp.objs.size + 1 := Nat.le_succ _
  have hn : H1 (hp.objs.size + 1) = none := I1.hok.fresh hsz
  have hq := q1 (hp.objs.size + 1) hn
  have kk : ∀ b o, hp.get? b = some o → ((hp.push (PySem.W.kdv_tup us)).push (PySem.HandSPX.excO C hp.objs.size)).get? b = some o := fun b o e => Heap.get?_push_of_some _ (Heap.get?_push_of_some _ e)
  have hget : ((hp.push (PySem.W.kdv_tup us)).push (PySem.HandSPX.excO C hp.objs.size)).get? (hp.objs.size + 1) = some (PySem.HandSPX.excO C hp.objs.size) := by heap_get
  have I2 : Inv X pins σ (upd H1 (hp.objs.size + 1) (exo (hp.objs.size + 1) C none)) ⟨(hp.push (PySem.W.kdv_tup us)).push (PySem.HandSPX.excO C hp.objs.size), g, dr, tk, os⟩ :=
    I1.laid (t' := tk) (a := hp.objs.size + 1) (o := exo (hp.objs.size + 1) C none) (h' := (hp.push (PySem.W.kdv_tup us)).push (PySem.HandSPX.excO C hp.objs.size)) kk hsz (exo_ok hget)
  have r2 : Vals (V.ref (hp.objs.size + 1) :: (vs ++ dvs)) (Value.ref (hp.objs.size + 1) :: (us ++ ds)) := .cons rfl (r1.append hd)
  have hl : (Value.ref (hp.objs.size + 1) :: us ++ ds).length = ps.length := by
    have e := r2.length
    rw [F1.len _ _ _ _ hq] at e
    exact e.symm
  have hus : us.length ≤ sizeLine := by
    rw [← Paired.length r1, sizeLine_eq]
    omega
  refine wpAny_call (PySem.HandSPX.call_own F.excBase_ValueError (fun Y => PySem.HandSPX.refsVE_contains Y bm hbm) (I1.kIn _ _ hC) (PySem.W.looks_findIn I1.kIn iC) (fun self => PySem.W.bind_fn I1.kIn self tI) hus
    (codeAny_mono (F1.run _ X.stack _ _ ⟨Value.ref (hp.objs.size + 1) :: us, []⟩ (Value.ref (hp.objs.size + 1) :: (us ++ ds)) _ _ (fun _ _ _ => False) (hr.make C us []) (I2.env0.make C us []) (hb _ (Value.ref (hp.objs.size + 1) :: us) I2.kIn hl) r2 hq) fun r s' hq' => ?_))
  cases r with
  | error er => exact hx pins σ _ _ er s' I2 hq'
  | ok fl =>
    cases fl with
    | ret u =>
      obtain ⟨v, H2, os2, bare2, un2, hok2, rv, ev, d, fs, ea, ed, hd1, q2⟩ := hq'
      subst ev
      obtain ⟨h2, g2, d2, t2, os'⟩ := s'
      obtain ⟨t0, G, J, kG, ge, hoe, na⟩ := mk_end0 (d2 := d2) (t2 := t2) I1 hsz kk un2 hok2 os2 bare2 ea ed hd1
      refine ⟨rv, hp.objs.size + 1, _, _, ⟨G, g2, d2, t2, os'⟩, _, .ref C, some d, rfl, J, kG, ge, hoe, ⟨rfl, rfl, fun vs hv => ?_⟩, rfl, rfl, na, rfl, bare2, raises_own T.exC T.tyC, q2⟩
      cases hv
      rfl
    | next => exact False.elim hq'
    | brk => exact False.elim hq'
    | cont => exact False.elim hq'
end
end CT
set_option maxHeartbeats 4000000
/-! DL1: plain data, a store of changing cells, how they lie in the abstract heap; expressions. -/
namespace CT
open PySem L2
/-! ### the domain -/
/-! ### how data lie in the heap -/
section
variable {k : Cn} {A A' : Nat → Addr} {C C' : Store} {H H' : Hp} {v : V} {d : D} {vs : List V} {ds : List D}
theorem RepL.get : ∀ {vs : List V} {ds : List D} {i : Nat} {d : D}, RepL k A C H vs ds → ds[i]? = some d → ∃ v, vs[i]? = some v ∧ Rep k A C H v d
  | _, _, _, _, .nil, e => by simp at e
  | _, _, 0, _, .cons r _, e => by simp at e; subst e; exact ⟨_, rfl, r⟩
  | _, _, i + 1, d, .cons _ t, e => by
    obtain ⟨u, h1, h2⟩ := RepL.get (i := i) (d := d) t (by simpa using e)
    exact ⟨u, by simpa using h1, h2⟩
theorem RepL.append : ∀ {vs ws : List V} {ds es : List D}, RepL k A C H vs ds → RepL k A C H ws es → RepL k A C H (vs ++ ws) (ds ++ es)
  | _, _, _, _, .nil, t => t
  | _, _, _, _, .cons r s, t => .cons r (RepL.append s t)
theorem RepL.rep : ∀ {vs : List V} {ds : List D} (n : Nat), RepL k A C H vs ds → RepL k A C H (List.replicate n vs).flatten (List.replicate n ds).flatten
  | _, _, 0, _ => by simp; exact .nil
  | _, _, n + 1, r => by
    rw [List.replicate_succ, List.replicate_succ, List.flatten_cons, List.flatten_cons]
    exact r.append (RepL.rep n r)
theorem RepL.ints : ∀ {ns : List Int}, RepL k A C H (ns.map V.int) (ns.map D.int)
  | [] => .nil
  | n :: ns => .cons (.int n) RepL.ints
theorem RepL.ints_inv : ∀ {ns : List Int} {vs : List V}, RepL k A C H vs (ns.map D.int) → vs = ns.map V.int
  | [], _, .nil => rfl
  | n :: ns, _, .cons r t => by
    cases r
    rw [RepL.ints_inv t]
    rfl
theorem RepL.bls_inv : ∀ {ns : List Bool} {vs : List V}, RepL k A C H vs (ns.map D.bl) → vs = ns.map V.bl
  | [], _, .nil => rfl
  | n :: ns, _, .cons r t => by
    cases r
    rw [RepL.bls_inv t]
    rfl
end
/-! ### the store -/
/-- what held of values holds on; the callers' cells name the callers' cells alone -/
structure Stp (k : Cn) (fl : Nat) (A : Nat → Addr) (C : Store) (H : Hp) (A' : Nat → Addr) (C' : Store) (H' : Hp) : Prop where
  rep : ∀ v d, Rep k A C H v d → Rep k A' C' H' v d
  len : C.length ≤ C'.length
  low : ∀ f, f ≤ fl → f ≤ C.length → LowC f C → LowC f C'
  frz : ∀ a o (u : List (List Key × V)), H a = some (.frz o (.dT u)) → H' a = some (.frz o (.dT u))
section
variable {k : Cn} {fl : Nat} {A A' A'' : Nat → Addr} {C C' C'' : Store} {H H' H'' : Hp} {v : V} {d : D} {vs : List V} {ds : List D}
theorem Stp.refl : Stp k fl A C H A C H := ⟨fun _ _ h => h, Nat.le_refl _, fun _ _ _ h => h, fun _ _ _ h => h⟩
theorem Stp.trans (a : Stp k fl A C H A' C' H') (b : Stp k fl A' C' H' A'' C'' H'') : Stp k fl A C H A'' C'' H'' :=
  ⟨fun v d h => b.rep v d (a.rep v d h), Nat.le_trans a.len b.len, fun f h1 h2 h => b.low f h1 (Nat.le_trans h2 a.len) (a.low f h1 h2 h), fun x o u h => b.frz x o u (a.frz x o u h)⟩
theorem Stp.reps (a : Stp k fl A C H A' C' H') : ∀ {vs : List V} {ds : List D}, RepL k A C H vs ds → RepL k A' C' H' vs ds
  | _, _, .nil => .nil
  | _, _, .cons r t => .cons (a.rep _ _ r) (a.reps t)
theorem Kp.stp (q : Kp A C H A' C' H') (h : ∀ f, f ≤ fl → f ≤ C.length → LowC f C → LowC f C') : Stp k fl A C H A' C' H' := ⟨fun _ _ r => r.kp q, q.len, h, q.fz⟩
theorem Kp.stp0 (q : Kp A C H A' C H') : Stp k fl A C H A' C H' := q.stp fun _ _ _ h => h
theorem low_app {c : Option Cell} {f : Nat} (hf : f ≤ C.length) (h : LowC f C) : LowC f (C ++ [c]) := fun i e hi he => by
  rw [List.getElem?_append_left (Nat.lt_of_lt_of_le hi hf)] at he
  exact h i e hi he
mutual
theorem cb_mono {n m : Nat} (h : n ≤ m) : ∀ {d : D}, cb n d = true → cb m d = true
  | .non, _ => rfl
  | .bl _, _ => rfl
  | .int _, _ => rfl
  | .str _, _ => rfl
  | .lst xs, z => by simp only [cb] at z ⊢; exact cbL_mono h z
  | .tup xs, z => by simp only [cb] at z ⊢; exact cbL_mono h z
  | .scr xs, z => by simp only [cb] at z ⊢; exact cbL_mono h z
  | .kt xs, z => by simp only [cb] at z ⊢; exact cbL_mono h z
  | .obj _ xs, z => by simp only [cb] at z ⊢; exact cbL_mono h z
  | .exn _ xs, z => by simp only [cb] at z ⊢; exact cbL_mono h z
  | .cls _, _ => rfl
  | .dT _ xs, z => by simp only [cb] at z ⊢; exact cbL_mono h z
  | .cell i, z => by simp only [cb, decide_eq_true_eq] at z ⊢; omega
theorem cbL_mono {n m : Nat} (h : n ≤ m) : ∀ {ds : List D}, cbL n ds = true → cbL m ds = true
  | [], _ => rfl
  | d :: ds, z => by
    simp only [cbL, Bool.and_eq_true] at z ⊢
    exact ⟨cb_mono h z.1, cbL_mono h z.2⟩
end
theorem cbC_mono {n m : Nat} (h : n ≤ m) {c : Cell} (z : cbC n c = true) : cbC m c = true := by
  cases c <;> exact cbL_mono h z
/-- a write: below the floor no cells are named -/
theorem low_set {i : Nat} {c : Cell} (hc : i < fl → cbC 0 c = true) {f : Nat} (hf : f ≤ fl) (h : LowC f C) : LowC f (C.set i (some c)) := fun j e hj he => by
  by_cases hij : i = j
  · subst hij
    by_cases hl : i < C.length
    · rw [List.getElem?_set_self hl] at he
      rw [← Option.some.inj (Option.some.inj he)]
      exact cbC_mono (Nat.zero_le _) (hc (by omega))
    · rw [List.getElem?_eq_none (by simp; omega)] at he
      cases he
  · rw [List.getElem?_set_ne hij] at he
    exact h j e hj he
theorem low_take {f n : Nat} (h : LowC f C) : LowC f (C.take n) := fun j e hj he => by
  by_cases hn : j < n
  · rw [List.getElem?_take_of_lt hn] at he
    exact h j e hj he
  · rw [List.getElem?_eq_none (by simp; omega)] at he
    cases he
theorem StOk.live (x : StOk k A C H) {a : Addr} (l : Live A C a) : ∃ o, H a = some o := by
  obtain ⟨i, c, e, rfl⟩ := l
  exact (x.at_ i c e).there
theorem StOk.notLive (x : StOk k A C H) {a : Addr} (h : H a = none) : ¬ Live A C a := fun l => by
  obtain ⟨o, e⟩ := x.live l
  rw [h] at e
  cases e
/-- a cell changes -/
theorem live_set {i : Nat} {c c0 : Cell} {a : Addr} (hi : C[i]? = some (some c0)) (l : Live A (C.set i (some c)) a) : Live A C a := by
  obtain ⟨j, c', e, rfl⟩ := l
  by_cases hj : i = j
  · subst hj
    exact ⟨i, c0, hi, rfl⟩
  · rw [List.getElem?_set_ne hj] at e
    exact ⟨j, c', e, rfl⟩
theorem CellAt.nofz {c : Cell} {a : Addr} (x : CellAt k A C H a c) (o : Obj) (u : HO) : H a ≠ some (.frz o u) := fun z => by
  cases c with
  | lst ds => obtain ⟨vs, e, r⟩ := x; rw [z] at e; cases e
  | dT ks ds => obtain ⟨kvs, e, y, r⟩ := x; rw [z] at e; cases e
  | ins c ds => obtain ⟨dx, vs, e, y, r⟩ := x; rw [z] at e; cases e
theorem kp_write {i : Nat} {c c0 : Cell} {o : HO} (st : StOk k A C H) (hi : C[i]? = some (some c0)) : Kp A C H A (C.set i (some c)) (upd H (A i) o) :=
  ⟨fun a u l e => ⟨fun y => l (live_set hi y), by rw [upd_ne (fun z => l ⟨i, c0, hi, z.symm⟩)]; exact e⟩, fun _ _ => rfl, by simp, fun a o u e => by
    rw [upd_ne (fun z => (st.at_ i _ hi).nofz o (.dT u) (by rw [← z]; exact e))]
    exact e⟩
theorem StOk.write {i : Nat} {c c0 : Cell} {o : HO} (x : StOk k A C H) (hi : C[i]? = some (some c0)) (y : CellAt k A (C.set i (some c)) (upd H (A i) o) (A i) c) : StOk k A (C.set i (some c)) (upd H (A i) o) := by
  have get : ∀ j c', (C.set i (some c))[j]? = some (some c') → j ≠ i → C[j]? = some (some c') := fun j c' e hj => by
    rw [List.getElem?_set_ne (Ne.symm hj)] at e
    exact e
  have here : ∀ c', (C.set i (some c))[i]? = some (some c') → c' = c := fun c' e => by
    rw [List.getElem?_set_self (List.getElem?_eq_some_iff.mp hi).1] at e
    exact (Option.some.inj (Option.some.inj e)).symm
  have some_ : ∀ j c', (C.set i (some c))[j]? = some (some c') → ∃ c'', C[j]? = some (some c'') := fun j c' e => by
    by_cases hj : j = i
    · rw [hj]
      exact ⟨c0, hi⟩
    · exact ⟨c', get j c' e hj⟩
  refine ⟨fun j c' e => ?_, fun j l c1 c2 e1 e2 z => ?_⟩
  · by_cases hj : j = i
    · subst hj
      rw [here c' e]
      exact y
    · have e' := get j c' e hj
      exact (x.at_ j c' e').kp (kp_write x hi) (upd_ne (fun z => hj (x.inj j i _ _ e' hi z)))
  · obtain ⟨d1, f1⟩ := some_ j c1 e1
    obtain ⟨d2, f2⟩ := some_ l c2 e2
    exact x.inj j l _ _ f1 f2 z
theorem Rep.cut {n : Nat} (hn : n ≤ C.length) (r : Rep k A C H v d) (h : CT.cb n d = true) : Rep k A (C.take n) H v d :=
  r.fw (fw_take n) (by rw [List.length_take, Nat.min_eq_left hn]; exact h)
theorem RepL.cut {n : Nat} (hn : n ≤ C.length) (r : RepL k A C H vs ds) (h : CT.cbL n ds = true) : RepL k A (C.take n) H vs ds :=
  r.fw (fw_take n) (by rw [List.length_take, Nat.min_eq_left hn]; exact h)
end
/-! ### frames -/
/-- behind a computation m that began at A, C, H -/
def Aft (k : Cn) (fl : Nat) (A : Nat → Addr) (C : Store) (H : Hp) {α β : Type} (rel : (Nat → Addr) → Store → Hp → β → α → Prop) (m : R α) (Q : α → Store → (Nat → Addr) → Hp → β → Prop) (W : XK) : Prop := match m with
  | .ok d C' => ∀ A' H' v, Stp k fl A C H A' C' H' → StOk k A' C' H' → rel A' C' H' v d → Q d C' A' H' v
  | .exc e C' => ∀ A' H' dd vs, Stp k fl A C H A' C' H' → StOk k A' C' H' → H' dd = some (.xd ((k.fn e.c).zip vs)) → vs.length = (k.fn e.c).length → RepL k A' C' H' vs e.fs → W (.ref (k.cl e.c)) (some dd) H'
  | .stuck => False
section
variable {k : Cn} {A A' A1 : Nat → Addr} {F : Fr} {C C' C1 : Store} {H H' H1 : Hp} {σ : L2.St} {fl : Nat}
theorem SR.step (s : SR k A F C σ H) (p : Stp k F.fl A C H A' C' H') (st : StOk k A' C' H') : SR k A' F C' σ H' :=
  ⟨st, p.low _ (Nat.le_refl _) s.fl s.low, Nat.le_trans s.fl p.len, s.len, fun i d e => let ⟨v, h1, h2⟩ := s.sl i d e; ⟨v, h1, p.rep v d h2⟩⟩
theorem SR.unset {i : Nat} (s : SR k A F C σ H) : SR k A ⟨F.fl, F.sl.set i none⟩ C (σ.set i none) H :=
  ⟨s.st, s.low, s.fl, by simp [s.len], fun j e h => by
    have h' : (F.sl.set i none)[j]? = some (some e) := h
    by_cases hij : i = j
    · subst hij
      by_cases hl : i < F.sl.length
      · rw [List.getElem?_set_self hl] at h'
        cases h'
      · rw [List.getElem?_eq_none (by simp; omega)] at h'
        cases h'
    · rw [List.getElem?_set_ne hij] at h'
      obtain ⟨u, h1, h2⟩ := s.sl j e h'
      exact ⟨u, by rw [List.getElem?_set_ne hij]; exact h1, h2⟩⟩
variable {α β γ δ : Type} {rel : (Nat → Addr) → Store → Hp → β → α → Prop} {rel2 : (Nat → Addr) → Store → Hp → δ → γ → Prop} {m : R α} {Q : α → Store → (Nat → Addr) → Hp → β → Prop} {W : XK}
theorem Aft.shift (s : Stp k fl A C H A1 C1 H1) (h : Aft k fl A C H rel m Q W) : Aft k fl A1 C1 H1 rel m Q W := by
  cases m with
  | ok d C' => exact fun A' H' v p st r => h A' H' v (s.trans p) st r
  | exc e C' => exact fun A' H' dd vs p st x l r => h A' H' dd vs (s.trans p) st x l r
  | stuck => exact h
theorem Aft.mono {Q' : α → Store → (Nat → Addr) → Hp → β → Prop} (h : Aft k fl A C H rel m Q W) (hq : ∀ d C' A' H' v, Stp k fl A C H A' C' H' → StOk k A' C' H' → rel A' C' H' v d → Q d C' A' H' v → Q' d C' A' H' v) : Aft k fl A C H rel m Q' W := by
  cases m with
  | ok d C' => exact fun A' H' v p st r => hq _ _ _ _ _ p st r (h A' H' v p st r)
  | exc e C' => exact h
  | stuck => exact h
theorem Aft.bnd {f : α → Store → R γ} {Q : γ → Store → (Nat → Addr) → Hp → δ → Prop} (h : Aft k fl A C H rel2 (bnd m f) Q W) :
    Aft k fl A C H rel m (fun d C1 A1 H1 v => Aft k fl A1 C1 H1 rel2 (f d C1) Q W) W := by
  cases m with
  | ok d C' => exact fun A' H' v p st r => Aft.shift p h
  | exc e C' => exact h
  | stuck => exact h
end
abbrev RepD (k : Cn) : (Nat → Addr) → Store → Hp → V → D → Prop := fun A C H v d => Rep k A C H v d
abbrev RepDs (k : Cn) : (Nat → Addr) → Store → Hp → List V → List D → Prop := fun A C H v d => RepL k A C H v d
/-- an expression's reading by data -/
def LE (k : Cn) (W : WX) (m : ME) : TE := fun σ H Q => ∃ A F C, SR k A F C σ H ∧ Aft k F.fl A C H (RepD k) (m F C) (fun _ _ _ H' v => Q v H') (fun c d H' => W c d σ H')
def LA (k : Cn) (W : WX) (m : MA) : TA := fun σ H Q => ∃ A F C, SR k A F C σ H ∧ Aft k F.fl A C H (RepDs k) (m F C) (fun _ _ _ H' v => Q v H') (fun c d H' => W c d σ H')
def LT (k : Cn) (W : WX) (m : MT) : TT := fun σ H Q => ∃ A F C, SR k A F C σ H ∧ Aft k F.fl A C H (fun _ _ _ (v d : Bool) => v = d) (m F C) (fun _ _ _ H' v => Q v H') (fun c d H' => W c d σ H')
end CT
set_option maxHeartbeats 4000000
/-! DL2: expressions over data: names, constants, operators, displays, subscripts, calls of built-ins. -/
namespace CT
open PySem L2
theorem _root_.L2.PE.cq {X : Cx} {e : Expr} {t t' : TE} (h : PE X e t) (c : ∀ σ H Q, t' σ H Q → t σ H Q) : PE X e t' := ⟨fun pins s σ H Q I q => h.run pins s σ H Q I (c σ H Q q)⟩
theorem _root_.L2.PT.cq {X : Cx} {e : Expr} {t t' : TT} (h : PT X e t) (c : ∀ σ H Q, t' σ H Q → t σ H Q) : PT X e t' := ⟨fun pins s σ H Q I q => h.run pins s σ H Q I (c σ H Q q)⟩
theorem _root_.L2.PW.cq {X : Cx} {e : Expr} {t t' : TT} (h : PW X e t) (c : ∀ σ H Q, t' σ H Q → t σ H Q) : PW X e t' := ⟨fun w pins s σ H Q I q => h.run w pins s σ H Q I (c σ H Q q)⟩
theorem _root_.L2.PA.cq {X : Cx} {e : List Expr} {t t' : TA} (h : PA X e t) (c : ∀ σ H Q, t' σ H Q → t σ H Q) : PA X e t' := ⟨fun p pins s σ H Q I q => h.run p pins s σ H Q I (c σ H Q q)⟩
theorem _root_.L2.PS.cq {X : Cx} {e : Stmt} {t t' : TS} (h : PS X e t) (c : ∀ D σ H, t' D σ H → t D σ H) : PS X e t' := ⟨fun pins s σ H Q I q => h.run pins s σ H Q I (c Q σ H q)⟩
theorem _root_.L2.PSs.cq {X : Cx} {e : List Stmt} {t t' : TS} (h : PSs X e t) (c : ∀ D σ H, t' D σ H → t D σ H) : PSs X e t' := ⟨fun pins s σ H Q I q => h.run pins s σ H Q I (c Q σ H q)⟩
/-! ### names, constants -/
section
variable {X : Cx} {k : Cn} {W : WX}
theorem le_var {i : Nat} {σ : L2.St} {H : Hp} {Q : VK} (h : LE k W (mVar i) σ H Q) : tVar i σ H Q := by
  obtain ⟨A, F, C, s, h⟩ := h
  unfold mVar at h
  split at h
  · rename_i d e
    obtain ⟨v, h1, h2⟩ := s.sl i d e
    exact ⟨v, h1, h A H v Stp.refl s.st h2⟩
  · exact h.elim
theorem dv (i : Nat) {x : Str} {pos : Pos} (hN : X.N[i]? = some x := by rfl) (hv : Vis X.env.scope x := by first | exact Or.inl rfl | exact Or.inr (Or.inl rfl) | exact Or.inr (Or.inr rfl)) (hd : (x == ("__debug__" : Str)) = false := by decide)
    (hcd : (x == ("__classdict__" : Str)) = false := by decide) : PE X (.Name x pos) (LE k W (mVar i)) := (pe_var hN hv hd hcd).cq fun _ _ _ h => le_var h
/-- a value that every heap reads as d -/
theorem le_c {v : V} {d : D} (hr : ∀ A C H, Rep k A C H v d) {σ : L2.St} {H : Hp} {Q : VK} (h : LE k W (mC d) σ H Q) : tC v σ H Q := by
  obtain ⟨A, F, C, s, h⟩ := h
  exact h A H v Stp.refl s.st (hr _ _ _)
theorem de_int {i j pos} : PE X (.Constant (.int i) j pos) (LE k W (mC (.int i))) := pe_int.cq fun _ _ _ h => le_c (fun _ _ _ => .int i) h
theorem de_bl {i j pos} : PE X (.Constant (.bool i) j pos) (LE k W (mC (.bl i))) := pe_bl.cq fun _ _ _ h => le_c (fun _ _ _ => .bl i) h
theorem de_non {j pos} : PE X (.Constant .none j pos) (LE k W (mC .non)) := pe_non.cq fun _ _ _ h => le_c (fun _ _ _ => .non) h
theorem de_glob {x : Str} {v : V} {d : D} {u : Value} {pos : Pos} (hr : ∀ A C H, Rep k A C H v d) (hg : Gl X x) (hm : X.mg x = some u) (r : RelV v u) (hd : (x == ("__debug__" : Str)) = false := by decide) : PE X (.Name x pos) (LE k W (mC d)) :=
  (pe_glob hg hm r hd).cq fun _ _ _ h => le_c hr h
end
/-! ### operators -/
/-- an operation on values that the data's operation o tells -/
def OpD (k : Cn) (r : R2) (o : O2) : Prop := ∀ fl A C H x y dx dy d C' (Q : VK), fl ≤ C.length → LowC fl C → StOk k A C H → Rep k A C H x dx → Rep k A C H y dy → o dx dy C = some (d, C') →
  (∀ A' H' v, Stp k fl A C H A' C' H' → StOk k A' C' H' → Rep k A' C' H' v d → Q v H') → r x y H Q
def ApD (k : Cn) (r : List V → Hp → VK → Prop) (o : OA) : Prop := ∀ fl A C H x dx d C' (Q : VK), fl ≤ C.length → LowC fl C → StOk k A C H → RepL k A C H x dx → o dx C = some (d, C') →
  (∀ A' H' v, Stp k fl A C H A' C' H' → StOk k A' C' H' → Rep k A' C' H' v d → Q v H') → r x H Q
theorem aft_ofO {k : Cn} {fl : Nat} {A : Nat → Addr} {C : Store} {H : Hp} {W : XK} {o : Option (D × Store)} {Q : D → Store → (Nat → Addr) → Hp → V → Prop} (h : Aft k fl A C H (RepD k) (ofO o) Q W) :
    ∃ d C', o = some (d, C') ∧ ∀ A' H' v, Stp k fl A C H A' C' H' → StOk k A' C' H' → Rep k A' C' H' v d → Q d C' A' H' v := by
  cases o with
  | none => exact h.elim
  | some p => exact ⟨p.1, p.2, rfl, h⟩
section
variable {X : Cx} {k : Cn} {W : WX} {σ : L2.St} {H : Hp} {Q : VK}
theorem le_op {r : R2} {o : O2} {ma mb : ME} (ho : OpD k r o) (h : LE k W (mOp o ma mb) σ H Q) : tOp r (LE k W ma) (LE k W mb) σ H Q := by
  obtain ⟨A, F, C, s, h⟩ := h
  refine ⟨A, F, C, s, (Aft.bnd (rel := RepD k) h).mono fun dx C1 A1 H1 x p1 st1 rx h1 => ?_⟩
  have s1 := s.step p1 st1
  refine ⟨A1, F, C1, s1, (Aft.bnd (rel := RepD k) h1).mono fun dy C2 A2 H2 y p2 st2 ry h2 => ?_⟩
  have s2 := s1.step p2 st2
  obtain ⟨d, C', e, q⟩ := aft_ofO h2
  exact ho F.fl A2 C2 H2 x y dx dy d C' Q s2.fl s2.low st2 (p2.rep _ _ rx) ry e q
theorem la_nil {Q : List V → Hp → Prop} (h : LA k W mNil σ H Q) : tNil σ H Q := by
  obtain ⟨A, F, C, s, h⟩ := h
  exact h A H [] Stp.refl s.st .nil
theorem la_cons {Q : List V → Hp → Prop} {ma : ME} {mr : MA} (h : LA k W (mCons ma mr) σ H Q) : tCons (LE k W ma) (LA k W mr) σ H Q := by
  obtain ⟨A, F, C, s, h⟩ := h
  refine ⟨A, F, C, s, (Aft.bnd (rel := RepD k) h).mono fun dx C1 A1 H1 x p1 st1 rx h1 => ?_⟩
  have s1 := s.step p1 st1
  refine ⟨A1, F, C1, s1, (Aft.bnd (rel := RepDs k) h1).mono fun dy C2 A2 H2 y p2 st2 ry h2 => ?_⟩
  exact h2 A2 H2 (x :: y) Stp.refl st2 (.cons (p2.rep _ _ rx) ry)
theorem le_ap {r : List V → Hp → VK → Prop} {o : OA} {ma : MA} (ho : ApD k r o) (h : LE k W (mAp o ma) σ H Q) : tCB r (LA k W ma) σ H Q := by
  obtain ⟨A, F, C, s, h⟩ := h
  refine ⟨A, F, C, s, (Aft.bnd (rel := RepDs k) h).mono fun dx C1 A1 H1 x p1 st1 rx h1 => ?_⟩
  have s1 := s.step p1 st1
  obtain ⟨d, C', e, q⟩ := aft_ofO h1
  exact ho F.fl A1 C1 H1 x dx d C' Q s1.fl s1.low st1 rx e q
theorem de_op {a b : Expr} {pos : Pos} {op : Operator} {r : R2} {o : O2} {ma mb : ME} (hR : OpR X (binaryOp op) r) (hD : OpD k r o) (ha : PE X a (LE k W ma)) (hb : PE X b (LE k W mb)) : PE X (.BinOp a op b pos) (LE k W (mOp o ma mb)) :=
  (pe_op hR ha hb).cq fun _ _ _ h => le_op hD h
theorem de_cmp {a b : Expr} {pos : Pos} {op : CmpOp} {r : R2} {o : O2} {ma mb : ME} (hR : OpR X (compareOp op) r) (hD : OpD k r o) (ha : PE X a (LE k W ma)) (hb : PE X b (LE k W mb)) (hm : behindInMarks op b = false) : PE X (.Compare a [op] [b] pos) (LE k W (mOp o ma mb)) :=
  (pe_cmpR hR ha hb hm).cq fun _ _ _ h => le_op hD h
theorem de_ix {a b : Expr} {pos : Pos} {r : R2} {o : O2} {ma mb : ME} (hR : IxR X r) (hD : OpD k r o) (ha : PE X a (LE k W ma)) (hb : PE X b (LE k W mb)) (hs : PlainIx b := by exact fun _ _ => rfl) : PE X (.Subscript a b pos) (LE k W (mOp o ma mb)) :=
  (pe_ix hR ha hb hs).cq fun _ _ _ h => le_op hD h
theorem da_nil : PA X [] (LA k W mNil) := pa_nil.cq fun _ _ _ h => la_nil h
theorem da_cons {e : Expr} {es : List Expr} {ma : ME} {mr : MA} (ha : PE X e (LE k W ma)) (hr : PA X es (LA k W mr)) (hs : starEach (e :: es) X.env = (false, eval e X.env) :: starEach es X.env := by rfl) : PA X (e :: es) (LA k W (mCons ma mr)) :=
  (pa_cons ha hr hs).cq fun _ _ _ h => la_cons h
theorem de_callB {x : Str} {id : String} {e : Expr} {es : List Expr} {p pos : Pos} {r : List V → Hp → VK → Prop} {o : OA} {ma : MA} (hc : CallR X (.builtin id) r) (hD : ApD k r o) (hg : Gl X x) (hm : X.mg x = none) (hv : bootBuiltins x = some (.builtin id))
    (ha : PA X (e :: es) (LA k W ma)) (hn : x ≠ "__name__" := by decide) (hdb : (x == ("__debug__" : Str)) = false := by decide) (he : starEach (e :: es) X.env = (false, eval e X.env) :: starEach es X.env := by rfl) (hpl : (backTo pos (starEach es X.env)).any (·.1) = false := by rfl) :
    PE X (.Call (.Name x p) (e :: es) [] pos) (LE k W (mAp o ma)) := (pe_callB hc hg hm hv ha hn hdb he hpl).cq fun _ _ _ h => le_ap hD h
theorem de_callTy {x : Str} {id : String} {e : Expr} {es : List Expr} {p pos : Pos} {r : List V → Hp → VK → Prop} {o : OA} {ma : MA} (hc : CallR X (.type id) r) (hD : ApD k r o) (hg : Gl X x) (hm : X.mg x = none) (hv : bootBuiltins x = some (.type id))
    (ha : PA X (e :: es) (LA k W ma)) (hn : x ≠ "__name__" := by decide) (hdb : (x == ("__debug__" : Str)) = false := by decide) (he : starEach (e :: es) X.env = (false, eval e X.env) :: starEach es X.env := by rfl) (hpl : (backTo pos (starEach es X.env)).any (·.1) = false := by rfl) :
    PE X (.Call (.Name x p) (e :: es) [] pos) (LE k W (mAp o ma)) := (pe_callTy hc hg hm hv ha hn hdb he hpl).cq fun _ _ _ h => le_ap hD h
end
/-! ### tests, and, or, not -/
abbrev RepB : (Nat → Addr) → Store → Hp → Bool → Bool → Prop := fun _ _ _ v d => v = d
section
variable {X : Cx} {k : Cn} {W : WX} {σ : L2.St} {H : Hp}
theorem lt_val {ma : ME} {Q : Bool → Hp → Prop} (h : LT k W (mTst ma) σ H Q) : tB (LE k W ma) σ H Q := by
  obtain ⟨A, F, C, s, h⟩ := h
  refine ⟨A, F, C, s, (Aft.bnd (rel := RepD k) h).mono fun dx C1 A1 H1 x p1 st1 rx h1 => ?_⟩
  cases rx with
  | bl b => exact ⟨b, rfl, h1 A1 H1 b Stp.refl st1 rfl⟩
  | _ => exact h1.elim
theorem dt_val {e : Expr} {ma : ME} (h : PE X e (LE k W ma)) (he : ∀ whole, isTrue e X.env whole = (do let v ← whole; standAt e.pos; holding [v] (truthy v)) := by intro _; rfl) : PT X e (LT k W (mTst ma)) :=
  (pt_val h he).cq fun _ _ _ h => lt_val h
theorem lt_and {a b : MT} {Q : Bool → Hp → Prop} (h : LT k W (tAndM a b) σ H Q) : tAnd (LT k W a) (LT k W b) σ H Q := by
  obtain ⟨A, F, C, s, h⟩ := h
  refine ⟨A, F, C, s, (Aft.bnd (rel := RepB) h).mono fun dx C1 A1 H1 x p1 st1 rx h1 => ?_⟩
  have rx : x = dx := rx
  subst rx
  cases x with
  | true => exact iteT ⟨A1, F, C1, s.step p1 st1, h1⟩
  | false => exact iteF (h1 A1 H1 false Stp.refl st1 rfl)
theorem lt_or {a b : MT} {Q : Bool → Hp → Prop} (h : LT k W (tOrM a b) σ H Q) : tOr (LT k W a) (LT k W b) σ H Q := by
  obtain ⟨A, F, C, s, h⟩ := h
  refine ⟨A, F, C, s, (Aft.bnd (rel := RepB) h).mono fun dx C1 A1 H1 x p1 st1 rx h1 => ?_⟩
  have rx : x = dx := rx
  subst rx
  cases x with
  | true => exact iteT (h1 A1 H1 true Stp.refl st1 rfl)
  | false => exact iteF ⟨A1, F, C1, s.step p1 st1, h1⟩
theorem lt_not {a : MT} {Q : Bool → Hp → Prop} (h : LT k W (tNotM a) σ H Q) : tNot (LT k W a) σ H Q := by
  obtain ⟨A, F, C, s, h⟩ := h
  refine ⟨A, F, C, s, (Aft.bnd (rel := RepB) h).mono fun dx C1 A1 H1 x p1 st1 rx h1 => ?_⟩
  have rx : x = dx := rx
  subst rx
  exact h1 A1 H1 (!x) Stp.refl st1 rfl
theorem dw_and1 {a : Expr} {pos : Pos} {m : MT} (ha : PT X a (LT k W m)) : PW X (.BoolOp .And [a] pos) (LT k W m) := pw_and1 ha
theorem dw_or1 {a : Expr} {pos : Pos} {m : MT} (ha : PT X a (LT k W m)) : PW X (.BoolOp .Or [a] pos) (LT k W m) := pw_or1 ha
theorem dw_and {a b : Expr} {rest : List Expr} {pos : Pos} {m n : MT} (ha : PT X a (LT k W m)) (hb : PW X (.BoolOp .And (b :: rest) pos) (LT k W n)) : PW X (.BoolOp .And (a :: b :: rest) pos) (LT k W (tAndM m n)) := (pw_and ha hb).cq fun _ _ _ h => lt_and h
theorem dw_or {a b : Expr} {rest : List Expr} {pos : Pos} {m n : MT} (ha : PT X a (LT k W m)) (hb : PW X (.BoolOp .Or (b :: rest) pos) (LT k W n)) : PW X (.BoolOp .Or (a :: b :: rest) pos) (LT k W (tOrM m n)) := (pw_or ha hb).cq fun _ _ _ h => lt_or h
theorem dt_not {a : Expr} {pos : Pos} {m : MT} (ha : PT X a (LT k W m)) : PT X (.UnaryOp .Not a pos) (LT k W (tNotM m)) := (pt_not ha).cq fun _ _ _ h => lt_not h
theorem le_and {a b : ME} {Q : VK} (h : LE k W (mAnd a b) σ H Q) : tAndV (LE k W a) (LE k W b) σ H Q := by
  obtain ⟨A, F, C, s, h⟩ := h
  refine ⟨A, F, C, s, (Aft.bnd (rel := RepD k) h).mono fun dx C1 A1 H1 x p1 st1 rx h1 => ?_⟩
  cases rx with
  | bl b =>
    refine ⟨b, rfl, ?_⟩
    cases b with
    | true => exact iteT ⟨A1, F, C1, s.step p1 st1, h1⟩
    | false => exact iteF (h1 A1 H1 (.bl false) Stp.refl st1 (.bl false))
  | _ => exact h1.elim
theorem le_not {a : ME} {Q : VK} (h : LE k W (mNot a) σ H Q) : tNotV (LE k W a) σ H Q := by
  obtain ⟨A, F, C, s, h⟩ := h
  refine ⟨A, F, C, s, (Aft.bnd (rel := RepD k) h).mono fun dx C1 A1 H1 x p1 st1 rx h1 => ?_⟩
  cases rx with
  | bl b => exact ⟨b, rfl, h1 A1 H1 (.bl (!b)) Stp.refl st1 (.bl _)⟩
  | _ => exact h1.elim
theorem le_if {t : MT} {a b : ME} {Q : VK} (h : LE k W (mIf t a b) σ H Q) : tIf (LT k W t) (LE k W a) (LE k W b) σ H Q := by
  obtain ⟨A, F, C, s, h⟩ := h
  refine ⟨A, F, C, s, (Aft.bnd (rel := RepB) h).mono fun dx C1 A1 H1 x p1 st1 rx h1 => ?_⟩
  have rx : x = dx := rx
  subst rx
  cases x with
  | true => exact iteT ⟨A1, F, C1, s.step p1 st1, h1⟩
  | false => exact iteF ⟨A1, F, C1, s.step p1 st1, h1⟩
theorem de_one {op} {a : Expr} {pos : Pos} {m : ME} (h : PE X a (LE k W m)) : PE X (.BoolOp op [a] pos) (LE k W m) := pe_one h
theorem de_and {a b : Expr} {rest : List Expr} {pos : Pos} {m n : ME} (ha : PE X a (LE k W m)) (hb : PE X (.BoolOp .And (b :: rest) pos) (LE k W n)) : PE X (.BoolOp .And (a :: b :: rest) pos) (LE k W (mAnd m n)) := (pe_and ha hb).cq fun _ _ _ h => le_and h
theorem de_not {a : Expr} {pos : Pos} {m : ME} (ha : PE X a (LE k W m)) : PE X (.UnaryOp .Not a pos) (LE k W (mNot m)) := (pe_not ha).cq fun _ _ _ h => le_not h
theorem de_if {c a b : Expr} {pos : Pos} {t : MT} {m n : ME} (hc : PT X c (LT k W t)) (ha : PE X a (LE k W m)) (hb : PE X b (LE k W n)) : PE X (.IfExp c a b pos) (LE k W (mIf t m n)) := (pe_ifExp hc ha hb).cq fun _ _ _ h => le_if h
end
/-! ### numbers -/
theorem opD_I0 {k : Cn} {g : Int → Int → V} {g' : Int → Int → D} (hg : ∀ i j A C H, Rep k A C H (g i j) (g' i j)) : OpD k (rI0 g) (oI0 g') := by
  intro fl A C H x y dx dy d C' Q hf hl st rx ry e q
  unfold oI0 at e
  split at e
  · cases rx; cases ry; cases e
    exact ⟨_, _, rfl, rfl, q A H _ Stp.refl st (hg _ _ _ _ _)⟩
  · cases e
theorem opD_I {k : Cn} {P : Int → Int → Prop} {c : Int → Int → Bool} {g : Int → Int → V} {g' : Int → Int → D} (hc : ∀ i j, c i j = true → P i j) (hg : ∀ i j A C H, Rep k A C H (g i j) (g' i j)) : OpD k (rI P g) (oI c g') := by
  intro fl A C H x y dx dy d C' Q hf hl st rx ry e q
  unfold oI at e
  split at e
  · split at e
    · rename_i h
      cases rx; cases ry; cases e
      exact ⟨_, _, rfl, rfl, hc _ _ h, q A H _ Stp.refl st (hg _ _ _ _ _)⟩
    · cases e
  · cases e
def cDiv (i j : Int) : Bool := decide (0 < j) && decide (j < 4611686018427387904)
def oDiv : O2 := oI cDiv fun i j => .int (i / j)
def oMod : O2 := oI (fun _ j => decide (0 < j)) fun i j => .int (i % j)
section
variable {k : Cn}
theorem d_add : OpD k (rI0 fun i j => .int (i + j)) oAdd := opD_I0 fun i j _ _ _ => .int _
theorem d_sub : OpD k (rI0 fun i j => .int (i - j)) oSub := opD_I0 fun i j _ _ _ => .int _
theorem d_mul : OpD k (rI CMul fun i j => .int (i * j)) oMul := opD_I (fun i j h => by
  simp only [cMul, Bool.or_eq_true, Bool.and_eq_true, decide_eq_true_eq] at h
  exact h) fun i j _ _ _ => .int _
theorem d_div : OpD k (rI CDivW fun i j => .int (i / j)) oDiv := opD_I (fun i j h => by
  simp only [cDiv, Bool.and_eq_true, decide_eq_true_eq] at h
  refine ⟨h.1, Nat.lt_of_lt_of_le ((Nat.log2_lt (by omega)).mpr (show j.natAbs < 2 ^ 62 by omega)) (by decide)⟩) fun i j _ _ _ => .int _
theorem d_mod : OpD k (rI (fun _ j => 0 < j) fun i j => .int (i % j)) oMod := opD_I (fun i j h => by simpa using h) fun i j _ _ _ => .int _
theorem d_lt : OpD k (rI0 fun i j => .bl (decide (i < j))) oLt := opD_I0 fun i j _ _ _ => .bl _
theorem d_le : OpD k (rI0 fun i j => .bl (decide (i ≤ j))) oLe := opD_I0 fun i j _ _ _ => .bl _
theorem d_gt : OpD k (rI0 fun i j => .bl (decide (j < i))) oGt := opD_I0 fun i j _ _ _ => .bl _
theorem d_ge : OpD k (rI0 fun i j => .bl (decide (j ≤ i))) oGe := opD_I0 fun i j _ _ _ => .bl _
end
/-! ### a chain of two comparisons -/
theorem le_chain {k : Cn} {W : WX} {σ : L2.St} {H : Hp} {Q : VK} {r r' : R2} {o o' : O2} {ma mb mc : ME} (ho : OpD k r o) (ho' : OpD k r' o') (h : LE k W (mChain o o' ma mb mc) σ H Q) : tChain r r' (LE k W ma) (LE k W mb) (LE k W mc) σ H Q := by
  obtain ⟨A, F, C, s, h⟩ := h
  refine ⟨A, F, C, s, (Aft.bnd (rel := RepD k) h).mono fun dx C1 A1 H1 x p1 st1 rx h1 => ?_⟩
  have s1 := s.step p1 st1
  refine ⟨A1, F, C1, s1, (Aft.bnd (rel := RepD k) h1).mono fun dy C2 A2 H2 y p2 st2 ry h2 => ?_⟩
  have s2 := s1.step p2 st2
  obtain ⟨d, C', e, q⟩ := aft_ofO (Aft.bnd (rel := RepD k) h2)
  refine ho F.fl A2 C2 H2 x y dx dy d C' _ s2.fl s2.low st2 (p2.rep _ _ rx) ry e fun A3 H3 z p3 st3 rz => ?_
  have h3 := q A3 H3 z p3 st3 rz
  cases rz with
  | bl b =>
    refine ⟨b, rfl, ?_⟩
    cases b with
    | true =>
      have s3 := s2.step p3 st3
      refine iteT ⟨A3, F, C', s3, (Aft.bnd (rel := RepD k) h3).mono fun dw C4 A4 H4 w p4 st4 rw h4 => ?_⟩
      have s4 := s3.step p4 st4
      obtain ⟨d', C'', e', q'⟩ := aft_ofO h4
      exact ho' F.fl A4 C4 H4 y w dy dw d' C'' Q s4.fl s4.low st4 (p4.rep _ _ (p3.rep _ _ ry)) rw e' q'
    | false => exact iteF (h3 A3 H3 (.bl false) Stp.refl st3 (.bl false))
  | _ => exact h3.elim
theorem de_chain {X : Cx} {k : Cn} {W : WX} {a b c : Expr} {pos : Pos} {op op' : CmpOp} {r r' : R2} {o o' : O2} {ma mb mc : ME} (hR : OpR X (compareOp op) r) (hD : OpD k r o) (hR' : OpR X (compareOp op') r') (hD' : OpD k r' o') (ha : PE X a (LE k W ma)) (hb : PE X b (LE k W mb)) (hc : PE X c (LE k W mc))
    (hm : lastMarks [op, op'] [b, c] = false := by with_unfolding_all rfl) : PE X (.Compare a [op, op'] [b, c] pos) (LE k W (mChain o o' ma mb mc)) :=
  (pe_chain hR hR' ha hb hc hm).cq fun _ _ _ h => le_chain hD hD' h
end CT
set_option maxHeartbeats 4000000
/-! DL3: lists, tuples, dicts over data. -/
namespace CT
open PySem L2
/-! ### what a datum is as a list, a tuple, a dict -/
def vS (d : D) (C : Store) : Option (List D) := match d with
  | .tup xs => some xs
  | .kt xs => some xs
  | .lst xs => some xs
  | .cell i => match C[i]? with
    | some (some (.lst xs)) => some xs
    | _ => none
  | _ => none
section
variable {k : Cn} {A : Nat → Addr} {C : Store} {H : Hp} {v : V} {d : D} {ds : List D}
theorem vL_at (st : StOk k A C H) (r : Rep k A C H v d) (e : vL d C = some ds) : ∃ a vs, v = .ref a ∧ H a = some (.lst vs) ∧ RepL k A C H vs ds := by
  cases r with
  | lst l h q => cases e; exact ⟨_, _, rfl, h, q⟩
  | cell hi =>
    rename_i i
    simp only [vL] at e
    split at e
    · rename_i xs ec
      cases e
      obtain ⟨vs, h, q⟩ := st.at_ i _ ec
      exact ⟨_, vs, rfl, h, q⟩
    · cases e
  | _ => cases e
theorem vT_at (r : Rep k A C H v d) (e : vT d = some ds) : ∃ a vs, v = .ref a ∧ SqT k.K H a vs ∧ RepL k A C H vs ds := by
  cases r with
  | tup l h q => cases e; exact ⟨_, _, rfl, .inl (.inl h), q⟩
  | ktup h q => cases e; exact ⟨_, _, rfl, .inr h, q⟩
  | _ => cases e
theorem vS_at (st : StOk k A C H) (r : Rep k A C H v d) (e : vS d C = some ds) : ∃ a vs, v = .ref a ∧ (SqL k.K H a vs ∨ SqT k.K H a vs) ∧ RepL k A C H vs ds := by
  cases r with
  | lst l h q => cases e; exact ⟨_, _, rfl, .inl (.inl (.inl h)), q⟩
  | tup l h q => cases e; exact ⟨_, _, rfl, .inr (.inl (.inl h)), q⟩
  | ktup h q => cases e; exact ⟨_, _, rfl, .inr (.inr h), q⟩
  | cell hi =>
    rename_i i
    simp only [vS] at e
    split at e
    · rename_i xs ec
      cases e
      obtain ⟨vs, h, q⟩ := st.at_ i _ ec
      exact ⟨_, vs, rfl, .inl (.inl (.inl h)), q⟩
    · cases e
  | _ => cases e
theorem vD_at {ks : List (List Key)} (st : StOk k A C H) (r : Rep k A C H v d) (e : vD d C = some (ks, ds)) : ∃ a kvs, v = .ref a ∧ Rd H a (.dT kvs) ∧ kvs.map (·.1) = ks ∧ RepL k A C H (kvs.map (·.2)) ds := by
  cases r with
  | dT l h q => cases e; exact ⟨_, _, rfl, h.rd, rfl, q⟩
  | cell hi =>
    rename_i i
    simp only [vD] at e
    split at e
    · rename_i xs ec
      cases e
      obtain ⟨vs, h, z, q⟩ := st.at_ i _ ec
      exact ⟨_, vs, rfl, .inl h, z, q⟩
    · cases e
  | _ => cases e
theorem dgT {H : Hp} {a b : Addr} {kvs : List (List Key × V)} {k : List Key} (e : Rd H a (.dT kvs)) (eb : H b = some (.tup (k.map kV))) : DGet H a (.ref b) (valV kvs k) := .inr ⟨kvs, k, b, e, rfl, eb, rfl⟩
/-! ### new lists, tuples, dicts: own cells or plain data -/
theorem ext_at (A : Nat → Addr) (n : Nat) (p : Addr) : ext A n p n = p := if_pos rfl
theorem rep_new {p : Addr} (n : Nat) (c : Cell) {H : Hp} {C : Store} : Rep k (ext A C.length p) (C ++ [some c]) H (.ref p) (.cell C.length) := by
  have h : Rep k (ext A C.length p) (C ++ [some c]) H (.ref (ext A C.length p C.length)) (.cell C.length) := .cell (by simp)
  rw [ext_at] at h
  exact h
theorem fresh_L {fl : Nat} {own : Bool} {p : Addr} {vs : List V} (hf : fl ≤ C.length) (st : StOk k A C H) (r : RepL k A C H vs ds) (h : H p = none) :
    ∃ A', Stp k fl A C H A' (mkL own ds C).2 (upd H p (.lst vs)) ∧ StOk k A' (mkL own ds C).2 (upd H p (.lst vs)) ∧ Rep k A' (mkL own ds C).2 (upd H p (.lst vs)) (.ref p) (mkL own ds C).1 := by
  cases own with
  | true =>
    have q : Kp A C H (ext A C.length p) (C ++ [some (.lst ds)]) (upd H p (.lst vs)) := kp_cell (k := k) st h
    exact ⟨ext A C.length p, q.stp fun f h1 h2 l => low_app h2 l, st.cell h ⟨vs, upd_same, r.kp q⟩, rep_new C.length _⟩
  | false =>
    have q : Kp A C H A C (upd H p (.lst vs)) := kp_new h
    exact ⟨A, q.stp0, st.new h, .lst (st.notLive h) upd_same (r.kp q)⟩
theorem fresh_T {fl : Nat} {p : Addr} {vs : List V} (st : StOk k A C H) (r : RepL k A C H vs ds) (h : H p = none) :
    Stp k fl A C H A C (upd H p (.tup vs)) ∧ StOk k A C (upd H p (.tup vs)) ∧ Rep k A C (upd H p (.tup vs)) (.ref p) (.tup ds) := by
  have q : Kp A C H A C (upd H p (.tup vs)) := kp_new h
  exact ⟨q.stp0, st.new h, .tup (st.notLive h) upd_same (r.kp q)⟩
theorem fresh_D {fl : Nat} {own : Bool} {p : Addr} {kvs : List (List Key × V)} (hf : fl ≤ C.length) (st : StOk k A C H) (r : RepL k A C H (kvs.map (·.2)) ds) (h : H p = none) :
    ∃ A', Stp k fl A C H A' (mkD own (kvs.map (·.1)) ds C).2 (upd H p (.dT kvs)) ∧ StOk k A' (mkD own (kvs.map (·.1)) ds C).2 (upd H p (.dT kvs)) ∧ Rep k A' (mkD own (kvs.map (·.1)) ds C).2 (upd H p (.dT kvs)) (.ref p) (mkD own (kvs.map (·.1)) ds C).1 := by
  cases own with
  | true =>
    have q : Kp A C H (ext A C.length p) (C ++ [some (.dT (kvs.map (·.1)) ds)]) (upd H p (.dT kvs)) := kp_cell (k := k) st h
    exact ⟨ext A C.length p, q.stp fun f h1 h2 l => low_app h2 l, st.cell h ⟨kvs, upd_same, rfl, r.kp q⟩, rep_new C.length _⟩
  | false =>
    have q : Kp A C H A C (upd H p (.dT kvs)) := kp_new h
    exact ⟨A, q.stp0, st.new h, .dT (st.notLive h) (.inl upd_same) (r.kp q)⟩
end
/-! ### displays -/
theorem szN_le {n : Nat} (h : szN n = true) : n ≤ sizeLine := by
  rw [sizeLine_eq]
  exact of_decide_eq_true h
section
variable {X : Cx} {k : Cn} {W : WX} {es : List Expr} {ma : MA} {pos : Pos}
theorem le_lst {own : Bool} {σ : L2.St} {H : Hp} {Q : VK} (h : LE k W (mAp (oLst own) ma) σ H Q) : tLst (LA k W ma) σ H Q := by
  obtain ⟨A, F, C, s, h⟩ := h
  refine ⟨A, F, C, s, (Aft.bnd (rel := RepDs k) h).mono fun dx C1 A1 H1 x p1 st1 rx h1 => ?_⟩
  have s1 := s.step p1 st1
  obtain ⟨d, C', e, q⟩ := aft_ofO h1
  unfold oLst at e
  split at e
  · rename_i hz
    refine ⟨by rw [rx.length]; exact szN_le hz, fun p hp => ?_⟩
    obtain ⟨A2, w1, w2, w3⟩ := fresh_L (own := own) s1.fl st1 rx hp
    have e1 := Option.some.inj e
    rw [e1] at w1 w2 w3
    exact q A2 _ _ w1 w2 w3
  · cases e
theorem de_lst (own : Bool) (h : PA X es (LA k W ma)) : PE X (.List es pos) (LE k W (mAp (oLst own) ma)) := (pe_lst h).cq fun _ _ _ h => le_lst h
theorem le_tup {σ : L2.St} {H : Hp} {Q : VK} (h : LE k W (mAp oTup ma) σ H Q) : tTup (LA k W ma) σ H Q := by
  obtain ⟨A, F, C, s, h⟩ := h
  refine ⟨A, F, C, s, (Aft.bnd (rel := RepDs k) h).mono fun dx C1 A1 H1 x p1 st1 rx h1 => ?_⟩
  obtain ⟨d, C', e, q⟩ := aft_ofO h1
  unfold oTup at e
  split at e
  · rename_i hz
    cases e
    refine ⟨by rw [rx.length]; exact szN_le hz, fun p hp => ?_⟩
    obtain ⟨w1, w2, w3⟩ := fresh_T st1 rx hp
    exact q A1 _ _ w1 w2 w3
  · cases e
theorem de_tup {x1} (h : PA X es (LA k W ma)) : PE X (.Tuple es x1 pos) (LE k W (mAp oTup ma)) := (pe_tup h).cq fun _ _ _ h => le_tup h
theorem de_dnew (own : Bool) : PE X (.Dict [] [] pos) (LE k W (mDNew own)) := pe_dnewT.cq fun σ H Q h => by
  obtain ⟨A, F, C, s, h⟩ := h
  intro p hp
  obtain ⟨A2, w1, w2, w3⟩ := fresh_D (own := own) (kvs := []) (ds := []) s.fl s.st .nil hp
  exact h A2 _ _ w1 w2 w3
end
/-! ### subscripts -/
def oIx : O2 := fun x y C => match y with
  | .int i => (vS x C).bind fun xs => (atI xs i).map fun d => (d, C)
  | _ => none
theorem atI_rep {k : Cn} {A : Nat → Addr} {C : Store} {H : Hp} {vs : List V} {ds : List D} {i : Int} {d : D} (r : RepL k A C H vs ds) (h : atI ds i = some d) : ∃ v, atI vs i = some v ∧ Rep k A C H v d := by
  unfold atI at h ⊢
  rw [r.length]
  cases e : ixN ds.length i with
  | none => rw [e] at h; cases h
  | some j =>
    rw [e] at h
    exact r.get h
theorem d_ix {k : Cn} : OpD k (rIx k.K) oIx := by
  intro fl A C H x y dx dy d C' Q hf hl st rx ry e q
  cases ry with
  | int i =>
    simp only [oIx] at e
    cases ev : vS dx C with
    | none => rw [ev] at e; cases e
    | some xs =>
      rw [ev] at e
      simp only [Option.bind_some, Option.map_eq_some_iff] at e
      obtain ⟨d', e1, e2⟩ := e
      cases e2
      obtain ⟨a, vs, rfl, hs, r⟩ := vS_at st rx ev
      obtain ⟨v, hv, rv⟩ := atI_rep r e1
      rcases hs with hs | hs
      · exact .inl ⟨a, vs, i, v, rfl, rfl, hs, hv, q A H v Stp.refl st rv⟩
      · exact .inr (.inl ⟨a, vs, i, v, rfl, rfl, hs, hv, q A H v Stp.refl st rv⟩)
  | _ => cases e
/-! ### dicts with tuple keys -/
theorem keyL_rep {k : Cn} {A : Nat → Addr} {C : Store} {H : Hp} : ∀ {vs : List V} {ds : List D} {ks : List Key}, RepL k A C H vs ds → keyL ds = some ks → vs = ks.map kV
  | _, _, _, .nil, e => by cases e; rfl
  | _, _, _, .cons r t, e => by
    cases r with
    | int i =>
      simp only [keyL, Option.map_eq_some_iff] at e
      obtain ⟨l, e1, e2⟩ := e
      cases e2
      rw [keyL_rep t e1]
      rfl
    | str s =>
      simp only [keyL, Option.map_eq_some_iff] at e
      obtain ⟨l, e1, e2⟩ := e
      cases e2
      rw [keyL_rep t e1]
      rfl
    | _ => cases e
theorem lookT_rep {k : Cn} {A : Nat → Addr} {C : Store} {H : Hp} (key : List Key) : ∀ {kvs : List (List Key × V)} {ds : List D}, RepL k A C H (kvs.map (·.2)) ds →
    (∀ d, lookT (kvs.map (·.1)) ds key = some d → ∃ v, valV kvs key = some v ∧ Rep k A C H v d) ∧ (lookT (kvs.map (·.1)) ds key = none → valV kvs key = none)
  | [], _, .nil => ⟨fun d h => (by cases h), fun _ => rfl⟩
  | p :: kvs, _, .cons r t => by
    have ih := lookT_rep key t
    by_cases e : p.1 = key
    · refine ⟨fun d h => ?_, fun h => ?_⟩
      · simp only [List.map_cons, lookT, if_pos e] at h
        cases h
        exact ⟨p.2, valV_pos e, r⟩
      · simp only [List.map_cons, lookT, if_pos e] at h
        cases h
    · refine ⟨fun d h => ?_, fun h => ?_⟩
      · simp only [List.map_cons, lookT, if_neg e] at h
        obtain ⟨v, h1, h2⟩ := ih.1 d h
        exact ⟨v, by rw [valV_neg e]; exact h1, h2⟩
      · simp only [List.map_cons, lookT, if_neg e] at h
        rw [valV_neg e]
        exact ih.2 h
theorem setT_rep {k : Cn} {A : Nat → Addr} {C : Store} {H : Hp} {v : V} {x : D} (key : List Key) (rx : Rep k A C H v x) : ∀ {kvs : List (List Key × V)} {ds : List D}, RepL k A C H (kvs.map (·.2)) ds →
    RepL k A C H ((kvs.map fun kv => if kv.1 = key then (kv.1, v) else kv).map (·.2)) (setT (kvs.map (·.1)) ds key x)
  | [], _, .nil => .nil
  | p :: kvs, _, .cons r t => by
    have ih := setT_rep key rx t
    by_cases e : p.1 = key
    · simp only [setT, List.map_cons, if_pos e]
      exact .cons rx ih
    · simp only [setT, List.map_cons, if_neg e]
      exact .cons r ih
theorem keys_map (key : List Key) (v : V) : ∀ kvs : List (List Key × V), (kvs.map fun kv => if kv.1 = key then (kv.1, v) else kv).map (·.1) = kvs.map (·.1)
  | [] => rfl
  | p :: kvs => by
    simp only [List.map_cons, keys_map key v kvs]
    split <;> rfl
theorem putK_rep {k : Cn} {A : Nat → Addr} {C : Store} {H : Hp} {v : V} {x : D} (key : List Key) (rx : Rep k A C H v x) {kvs : List (List Key × V)} {ds : List D} (r : RepL k A C H (kvs.map (·.2)) ds) :
    (putK kvs key v).map (·.1) = (putT (kvs.map (·.1)) ds key x).1 ∧ RepL k A C H ((putK kvs key v).map (·.2)) (putT (kvs.map (·.1)) ds key x).2 := by
  have ea : ((kvs.map (·.1)).any fun k => decide (k = key)) = (kvs.any fun kv => decide (kv.1 = key)) := by rw [List.any_map]; rfl
  unfold putK putT
  rw [ea]
  split
  · exact ⟨keys_map key v kvs, setT_rep key rx r⟩
  · rw [List.map_append, List.map_append]
    exact ⟨rfl, r.append (.cons rx .nil)⟩
/-- a key that lies in the heap as a tuple -/
theorem key_at {k : Cn} {A : Nat → Addr} {C : Store} {H : Hp} {y : V} {ds : List D} {key : List Key} (r : Rep k A C H y (.tup ds)) (hk : keyL ds = some key) : ∃ b, y = .ref b ∧ H b = some (.tup (key.map kV)) := by
  cases r with
  | tup l h t =>
    have e := keyL_rep t hk
    subst e
    exact ⟨_, rfl, h⟩
section
variable {X : Cx} {k : Cn} {W : WX} {σ : L2.St} {H : Hp} {Q : VK}
theorem le_dget {ma mb mc : ME} (h : LE k W (mDGet ma mb mc) σ H Q) : tDGet2 (LE k W ma) (LE k W mb) (LE k W mc) σ H Q := by
  obtain ⟨A, F, C, s, h⟩ := h
  refine ⟨A, F, C, s, (Aft.bnd (rel := RepD k) h).mono fun dx C1 A1 H1 x p1 st1 rx h1 => ?_⟩
  have s1 := s.step p1 st1
  have key1 : ∀ (A1 : Nat → Addr) (H1 : Hp) (x : V), StOk k A1 C1 H1 → Rep k A1 C1 H1 x dx → (vD dx C1).isSome = true → ∃ a, x = .ref a ∧ IsD H1 a := fun A1 H1 x st1 rx hs => by
    obtain ⟨⟨ks, vs⟩, e1⟩ := Option.isSome_iff_exists.mp hs
    obtain ⟨a, kvs, rfl, ha, _, _⟩ := vD_at st1 rx e1
    exact ⟨a, rfl, .inr ⟨kvs, ha⟩⟩
  by_cases hs : (vD dx C1).isSome = true
  · obtain ⟨a, rfl, hd⟩ := key1 A1 H1 x st1 rx hs
    rw [if_pos hs] at h1
    refine ⟨a, rfl, hd, A1, F, C1, s1, (Aft.bnd (rel := RepD k) h1).mono fun dy C2 A2 H2 y p2 st2 ry h2 => ?_⟩
    have s2 := s1.step p2 st2
    refine ⟨A2, F, C2, s2, (Aft.bnd (rel := RepD k) h2).mono fun dz C3 A3 H3 z p3 st3 rz h3 => ?_⟩
    obtain ⟨d, C', e, q⟩ := aft_ofO h3
    unfold oDGet at e
    split at e
    · rename_i ds
      simp only [Option.bind_eq_some_iff, Option.map_eq_some_iff] at e
      obtain ⟨⟨ks, vs⟩, e1, key, e2, e4⟩ := e
      cases e4
      obtain ⟨a', kvs, ea, ha, hk, hr⟩ := vD_at st3 (p3.rep _ _ (p2.rep _ _ rx)) e1
      cases ea
      obtain ⟨b, rfl, hb⟩ := key_at (p3.rep _ _ ry) e2
      subst hk
      refine ⟨_, dgT ha hb, ?_⟩
      cases el : lookT (kvs.map (·.1)) vs key with
      | none =>
        rw [(lookT_rep key hr).2 el]
        rw [el] at q
        exact q A3 H3 z Stp.refl st3 rz
      | some d =>
        obtain ⟨v, hv, rv⟩ := (lookT_rep key hr).1 _ el
        rw [hv]
        rw [el] at q
        exact q A3 H3 v Stp.refl st3 rv
    · cases e
  · rw [if_neg hs] at h1
    exact h1.elim
theorem de_dget {o e f : Expr} {apos cpos : Pos} {ma mb mc : ME} (hu : X.A.units + 1 < cLine) (ho : PE X o (LE k W ma)) (he : PE X e (LE k W mb)) (hf : PE X f (LE k W mc)) (m : M2 X o "get" apos e f cpos := by exact ⟨rfl, rfl, rfl, rfl⟩) :
    PE X (.Call (.Attribute o "get" apos) [e, f] [] cpos) (LE k W (mDGet ma mb mc)) := (pe_dget2 hu ho he hf m).cq fun _ _ _ h => le_dget h
end
end CT
set_option maxHeartbeats 4000000
/-! DL4: statements, defs over data. -/
namespace CT
open PySem L2
def AftS (k : Cn) (W : WX) (fl : Nat) (A : Nat → Addr) (C : Store) (H : Hp) (m : RS) (E : Ends) : Prop := match m with
  | .nx sl C' => ∀ A' σ' H', Stp k fl A C H A' C' H' → SR k A' ⟨fl, sl⟩ C' σ' H' → E.nx σ' H'
  | .bk sl C' => ∀ A' σ' H', Stp k fl A C H A' C' H' → SR k A' ⟨fl, sl⟩ C' σ' H' → E.bk σ' H'
  | .ct sl C' => ∀ A' σ' H', Stp k fl A C H A' C' H' → SR k A' ⟨fl, sl⟩ C' σ' H' → E.ct σ' H'
  | .rt d C' => ∀ A' H' v, Stp k fl A C H A' C' H' → StOk k A' C' H' → Rep k A' C' H' v d → E.rt v H'
  | .xc e sl C' => ∀ A' σ' H' dd vs, Stp k fl A C H A' C' H' → SR k A' ⟨fl, sl⟩ C' σ' H' → H' dd = some (.xd ((k.fn e.c).zip vs)) → vs.length = (k.fn e.c).length → RepL k A' C' H' vs e.fs → W (.ref (k.cl e.c)) (some dd) σ' H'
  | .stuck => False
def LS (k : Cn) (W : WX) (m : MS) : TS := fun E σ H => ∃ A F C, SR k A F C σ H ∧ AftS k W F.fl A C H (m F C) E
section
variable {k : Cn} {W : WX} {fl : Nat} {A A1 : Nat → Addr} {C C1 : Store} {H H1 : Hp} {m : RS} {E E' : Ends}
theorem AftS.shift (s : Stp k fl A C H A1 C1 H1) (h : AftS k W fl A C H m E) : AftS k W fl A1 C1 H1 m E := by
  cases m with
  | nx sl C' => exact fun A' σ' H' p r => h A' σ' H' (s.trans p) r
  | bk sl C' => exact fun A' σ' H' p r => h A' σ' H' (s.trans p) r
  | ct sl C' => exact fun A' σ' H' p r => h A' σ' H' (s.trans p) r
  | rt d C' => exact fun A' H' v p st r => h A' H' v (s.trans p) st r
  | xc e sl C' => exact fun A' σ' H' dd vs p r x l t => h A' σ' H' dd vs (s.trans p) r x l t
  | stuck => exact h
end
/-! ### simple statements -/
theorem AftS.bnd {k : Cn} {W : WX} {F : Fr} {A : Nat → Addr} {C : Store} {σ : L2.St} {H : Hp} {E : Ends} {α β : Type} {rel : (Nat → Addr) → Store → Hp → β → α → Prop} {m : R α} {f : α → Store → RS} (s : SR k A F C σ H)
    (h : AftS k W F.fl A C H (bndS F.sl m f) E) : Aft k F.fl A C H rel m (fun d C1 A1 H1 v => AftS k W F.fl A1 C1 H1 (f d C1) E) (fun c d H' => W c d σ H') := by
  cases m with
  | ok d C' => exact fun A' H' v p st r => AftS.shift p h
  | exc e C' => exact fun A' H' dd vs p st x l r => h A' σ H' dd vs p (s.step p st) x l r
  | stuck => exact h
def sNever : MS := fun _ _ => .stuck
section
variable {X : Cx} {k : Cn} {W : WX} {E : Ends} {σ : L2.St} {H : Hp}
theorem ls_next (h : LS k W sNext E σ H) : tNext E σ H := by
  obtain ⟨A, F, C, s, h⟩ := h
  exact h A σ H Stp.refl s
theorem ls_seq {a b : MS} (h : LS k W (sSeq a b) E σ H) : tSeq (LS k W a) (LS k W b) E σ H := by
  obtain ⟨A, F, C, s, h⟩ := h
  refine ⟨A, F, C, s, ?_⟩
  unfold sSeq at h
  cases e : a F C with
  | nx sl C' =>
    rw [e] at h
    exact fun A' σ' H' p r => ⟨A', ⟨F.fl, sl⟩, C', r, AftS.shift p h⟩
  | bk sl C' => rw [e] at h; exact h
  | ct sl C' => rw [e] at h; exact h
  | rt d C' => rw [e] at h; exact h
  | xc x sl C' => rw [e] at h; exact h
  | stuck => rw [e] at h; exact h
theorem ls_drop {m : ME} (h : LS k W (sDrop m) E σ H) : tDrop (LE k W m) E σ H := by
  obtain ⟨A, F, C, s, h⟩ := h
  exact ⟨A, F, C, s, (AftS.bnd (rel := RepD k) s h).mono fun d C1 A1 H1 v p st r h1 => h1 A1 σ H1 Stp.refl (s.step p st)⟩
theorem ls_ret {m : ME} (h : LS k W (sRet m) E σ H) : tRet (LE k W m) E σ H := by
  obtain ⟨A, F, C, s, h⟩ := h
  exact ⟨A, F, C, s, (AftS.bnd (rel := RepD k) s h).mono fun d C1 A1 H1 v p st r h1 => h1 A1 H1 v Stp.refl st r⟩
theorem ls_if {t : MT} {a b : MS} (h : LS k W (sIf t a b) E σ H) : tIfS (LT k W t) (LS k W a) (LS k W b) E σ H := by
  obtain ⟨A, F, C, s, h⟩ := h
  refine ⟨A, F, C, s, (AftS.bnd (rel := RepB) s h).mono fun dx C1 A1 H1 x p st rx h1 => ?_⟩
  have rx : x = dx := rx
  subst rx
  cases x with
  | true => exact iteT ⟨A1, F, C1, s.step p st, h1⟩
  | false => exact iteF ⟨A1, F, C1, s.step p st, h1⟩
theorem dss_nil : PSs X [] (LS k W sNext) := pss_nil.cq fun _ _ _ h => ls_next h
theorem dss_cons {st : Stmt} {rest : List Stmt} {a b : MS} (h1 : PS X st (LS k W a)) (h2 : PSs X rest (LS k W b)) : PSs X (st :: rest) (LS k W (sSeq a b)) := (pss_cons h1 h2).cq fun _ _ _ h => ls_seq h
theorem dss_one {st : Stmt} {a : MS} (h1 : PS X st (LS k W a)) : PSs X [st] (LS k W a) := pss_one h1
theorem ds_expr {e : Expr} {pos : Pos} {m : ME} (he : PE X e (LE k W m)) (hs : swapsWith e none pos.line X.env = pure false := by rfl) : PS X (.Expr e pos) (LS k W (sDrop m)) := (ps_expr he hs).cq fun _ _ _ h => ls_drop h
theorem ds_ret {e : Expr} {pos : Pos} {m : ME} (he : PE X e (LE k W m)) : PS X (.Return (some e) pos) (LS k W (sRet m)) := (ps_ret he).cq fun _ _ _ h => ls_ret h
theorem ds_if {c : Expr} {a b : List Stmt} {pos : Pos} {t : MT} {m n : MS} (hc : PT X c (LT k W t)) (ha : PSs X a (LS k W m)) (hb : PSs X b (LS k W n)) : PS X (.If c a b pos) (LS k W (sIf t m n)) := (ps_if hc ha hb).cq fun _ _ _ h => ls_if h
theorem ds_never {st : Stmt} : PS X st (LS k W sNever) := ps_never.cq fun E σ H h => by
  obtain ⟨A, F, C, s, h⟩ := h
  exact h.elim
end
/-! ### targets -/
def gsN : List Nat → TGs
  | [] => gNil
  | i :: is => gCons (gName i) (gsN is)
section
variable {X : Cx} {k : Cn}
theorem setAll_len : ∀ {is : List Nat} {ds : List D} {sl sl' : List (Option D)}, setAll is ds sl = some sl' → ds.length = is.length
  | [], [], _, _, _ => rfl
  | _ :: is, _ :: ds, _, _, h => by
    have := setAll_len (is := is) (ds := ds) h
    simp [this]
  | [], _ :: _, _, _, h => by cases h
  | _ :: _, [], _, _, h => by cases h
theorem _root_.L2.PG.cq {X : Cx} {e : Expr} {t t' : TG} (h : PG X e t) (c : ∀ v σ H Q, t' v σ H Q → t v σ H Q) : PG X e t' := ⟨fun pins s σ H v u Q I r q => h.run pins s σ H v u Q I r (c v σ H Q q)⟩
end
end CT
set_option maxHeartbeats 4000000
/-! DL5: stores, loops over data. -/
namespace CT
open PySem L2
section
variable {X : Cx} {k : Cn} {W : WX} {E : Ends} {σ : L2.St} {H : Hp}
/-! ### assignments -/
theorem ls_set {m : ME} {i : Nat} (h : LS k W (sAsg m (gN i)) E σ H) : tAsg (LE k W m) (gName i) E σ H := by
  obtain ⟨A, F, C, s, h⟩ := h
  exact ⟨A, F, C, s, (AftS.bnd (rel := RepD k) s h).mono fun d C1 A1 H1 v p st r h1 => h1 A1 _ H1 Stp.refl ((s.step p st).set r)⟩
theorem ds_set {i : Nat} {x : Str} {e : Expr} {pos pos' : Pos} {m : ME} (hN : X.N.Nodup) (hi : X.N[i]? = some x) (hx : Loc X.env.scope x) (he : PE X e (LE k W m)) (hs : swapsWith e (some (.Name x pos')) pos.line X.env = pure false := by rfl) (hf : X.fn x = true ∨ X.env.scope.names.lookup x = some .local := by first | exact .inl rfl | exact .inr rfl | assumption) :
    PS X (.Assign [.Name x pos'] e pos) (LS k W (sAsg m (gN i))) := (ps_set hN hi hx he hs hf).cq fun _ _ _ h => ls_set h
theorem ls_par3 {i j l : Nat} {m : MA} (h : LS k W (sPar [i, j, l] m) E σ H) : tPar3 i j l (LA k W m) E σ H := by
  obtain ⟨A, F, C, s, h⟩ := h
  refine ⟨A, F, C, s, (AftS.bnd (rel := RepDs k) s h).mono fun d C1 A1 H1 vs p st r h1 => ?_⟩
  cases r with
  | nil => exact h1.elim
  | cons r1 t1 =>
    cases t1 with
    | nil => exact h1.elim
    | cons r2 t2 =>
      cases t2 with
      | nil => exact h1.elim
      | cons r3 t3 =>
        cases t3 with
        | nil => exact ⟨_, _, _, rfl, h1 A1 _ H1 Stp.refl ((((s.step p st).set r1).set r2).set r3)⟩
        | cons r4 t4 => exact h1.elim
theorem ds_par3 {i j l : Nat} {x y z : Str} {a b c : Expr} {px py pz pt pos : Pos} {kt k2 pt2} {m : MA} (hc : X.calm = true) (hN : X.N.Nodup) (hi : X.N[i]? = some x) (hj : X.N[j]? = some y) (hl : X.N[l]? = some z) (hij : i ≠ j) (hil : i ≠ l) (hjl : j ≠ l)
    (hx : X.env.scope.names.lookup x = some .local) (hy : X.env.scope.names.lookup y = some .local) (hz : X.env.scope.names.lookup z = some .local) (ha : PA X [a, b, c] (LA k W m))
    (hw : swappedStores [.Tuple [.Name x px, .Name y py, .Name z pz] kt pt] (.Tuple [a, b, c] k2 pt2) X.env = pure (some [x, y, z]) := by rfl)
    (hs : swapsWithSole [.Tuple [.Name x px, .Name y py, .Name z pz] kt pt] (.Tuple [a, b, c] k2 pt2) pos.line X.env = pure false := by rfl) :
    PS X (.Assign [.Tuple [.Name x px, .Name y py, .Name z pz] kt pt] (.Tuple [a, b, c] k2 pt2) pos) (LS k W (sPar [i, j, l] m)) := (ps_par3 hc hN hi hj hl hij hil hjl hx hy hz ha hw hs).cq fun _ _ _ h => ls_par3 h
end
/-! ### cells written -/
theorem wr_some {fl i : Nat} {c : Cell} {C C' : Store} (h : wr fl i c C = some C') : C' = C.set i (some c) ∧ (i < fl → cbC 0 c = true) := by
  unfold wr at h
  split at h
  · cases h
  · rename_i hn
    cases h
    refine ⟨rfl, fun hi => ?_⟩
    cases e : cbC 0 c with
    | true => rfl
    | false => exact absurd ⟨hi, e⟩ hn
section
variable {k : Cn} {A : Nat → Addr} {C C' : Store} {H : Hp} {fl i : Nat}
theorem write_L {c0 : Cell} {ds : List D} {vs : List V} (st : StOk k A C H) (hi : C[i]? = some (some c0)) (r : RepL k A C H vs ds) (h : wr fl i (.lst ds) C = some C') :
    Stp k fl A C H A C' (upd H (A i) (.lst vs)) ∧ StOk k A C' (upd H (A i) (.lst vs)) := by
  obtain ⟨rfl, hc⟩ := wr_some h
  have q : Kp A C H A (C.set i (some (.lst ds))) (upd H (A i) (.lst vs)) := kp_write st hi
  exact ⟨q.stp fun f h1 h2 l => low_set hc h1 l, st.write hi ⟨vs, upd_same, r.kp q⟩⟩
theorem write_D {c0 : Cell} {ks : List (List Key)} {ds : List D} {kvs : List (List Key × V)} (st : StOk k A C H) (hi : C[i]? = some (some c0)) (hk : kvs.map (·.1) = ks) (r : RepL k A C H (kvs.map (·.2)) ds) (h : wr fl i (.dT ks ds) C = some C') :
    Stp k fl A C H A C' (upd H (A i) (.dT kvs)) ∧ StOk k A C' (upd H (A i) (.dT kvs)) := by
  obtain ⟨rfl, hc⟩ := wr_some h
  have q : Kp A C H A (C.set i (some (.dT ks ds))) (upd H (A i) (.dT kvs)) := kp_write st hi
  exact ⟨q.stp fun f h1 h2 l => low_set hc h1 l, st.write hi ⟨kvs, upd_same, hk, r.kp q⟩⟩
end
section
variable {k : Cn} {A : Nat → Addr} {C : Store} {H : Hp} {v : V} {d : D} {i : Nat}
theorem cL_at {ds : List D} (st : StOk k A C H) (r : Rep k A C H v d) (e : cL d C = some (i, ds)) : d = .cell i ∧ v = .ref (A i) ∧ C[i]? = some (some (.lst ds)) ∧ ∃ vs, H (A i) = some (.lst vs) ∧ RepL k A C H vs ds := by
  cases r with
  | cell hi =>
    simp only [cL] at e
    split at e
    · rename_i xs ec
      cases e
      exact ⟨rfl, rfl, ec, st.at_ i _ ec⟩
    · cases e
  | _ => cases e
theorem cD_at {ks : List (List Key)} {ds : List D} (st : StOk k A C H) (r : Rep k A C H v d) (e : cD d C = some (i, ks, ds)) : d = .cell i ∧ v = .ref (A i) ∧ C[i]? = some (some (.dT ks ds)) ∧ ∃ kvs : List (List Key × V), H (A i) = some (.dT kvs) ∧ kvs.map (·.1) = ks ∧ RepL k A C H (kvs.map (·.2)) ds := by
  cases r with
  | cell hi =>
    simp only [cD] at e
    split at e
    · rename_i xs ec
      cases e
      exact ⟨rfl, rfl, ec, st.at_ i _ ec⟩
    · cases e
  | _ => cases e
end
section
variable {X : Cx} {k : Cn} {W : WX} {E : Ends} {σ : L2.St} {H : Hp}
theorem ls_setL {me mo mi : ME} (h : LS k W (sSetL me mo mi) E σ H) : tAsg (LE k W me) (gSub (LE k W mo) (LE k W mi) rSetL) E σ H := by
  obtain ⟨A, F, C, s, h⟩ := h
  refine ⟨A, F, C, s, (AftS.bnd (rel := RepD k) s h).mono fun dv C1 A1 H1 v p1 st1 rv h1 => ?_⟩
  have s1 := s.step p1 st1
  refine ⟨A1, F, C1, s1, (AftS.bnd (rel := RepD k) s1 h1).mono fun dO C2 A2 H2 o p2 st2 ro h2 => ?_⟩
  have s2 := s1.step p2 st2
  refine ⟨A2, F, C2, s2, (AftS.bnd (rel := RepD k) s2 h2).mono fun dx C3 A3 H3 x p3 st3 rx h3 => ?_⟩
  have s3 := s2.step p3 st3
  cases rx with
  | int n =>
    cases ec : cL dO C3 with
    | none => simp only [ec] at h3; exact h3.elim
    | some q =>
      obtain ⟨i, ds⟩ := q
      simp only [ec] at h3
      obtain ⟨rfl, rfl, hi, vs, hv, rvs⟩ := cL_at st3 (p3.rep _ _ ro) ec
      cases ej : ixN ds.length n with
      | none => simp only [ej] at h3; exact h3.elim
      | some j =>
        simp only [ej] at h3
        cases ew : wr F.fl i (.lst (ds.set j dv)) C3 with
        | none => simp only [ew] at h3; exact h3.elim
        | some C4 =>
          simp only [ew] at h3
          obtain ⟨q1, q2⟩ := write_L st3 hi (rvs.set (p3.rep _ _ (p2.rep _ _ rv)) j) ew
          exact ⟨A3 i, vs, n, j, rfl, rfl, hv, by rw [rvs.length]; exact ej, h3 A3 σ _ q1 (s3.step q1 q2)⟩
  | _ => exact h3.elim
theorem ls_put {me mo mi : ME} (h : LS k W (sPut me mo mi) E σ H) : sDPut (LE k W mo) (LE k W mi) (LE k W me) E σ H := by
  obtain ⟨A, F, C, s, h⟩ := h
  refine ⟨A, F, C, s, (AftS.bnd (rel := RepD k) s h).mono fun dv C1 A1 H1 v p1 st1 rv h1 => ?_⟩
  have s1 := s.step p1 st1
  refine ⟨A1, F, C1, s1, (AftS.bnd (rel := RepD k) s1 h1).mono fun dO C2 A2 H2 o p2 st2 ro h2 => ?_⟩
  have s2 := s1.step p2 st2
  refine ⟨A2, F, C2, s2, (AftS.bnd (rel := RepD k) s2 h2).mono fun dx C3 A3 H3 x p3 st3 rx h3 => ?_⟩
  have s3 := s2.step p3 st3
  cases dx with
  | tup ds =>
    cases ec : cD dO C3 with
    | none => simp only [ec] at h3; exact h3.elim
    | some q =>
      obtain ⟨i, ks, vs⟩ := q
      simp only [ec] at h3
      obtain ⟨rfl, rfl, hi, kvs, hv, hk, rvs⟩ := cD_at st3 (p3.rep _ _ ro) ec
      cases ej : keyL ds with
      | none => simp only [ej] at h3; exact h3.elim
      | some key =>
        simp only [ej] at h3
        split at h3
        · rename_i hz
          cases ew : wr F.fl i (.dT (putT ks vs key dv).1 (putT ks vs key dv).2) C3 with
          | none => simp only [ew] at h3; exact h3.elim
          | some C4 =>
            simp only [ew] at h3
            obtain ⟨b, rfl, hb⟩ := key_at rx ej
            subst hk
            have hz' : kvs.length < sizeLine := by
              have := szN_le hz
              rw [List.length_map] at this
              omega
            obtain ⟨k1, k2⟩ := putK_rep key (p3.rep _ _ (p2.rep _ _ rv)) rvs
            obtain ⟨q1, q2⟩ := write_D st3 hi k1 k2 ew
            exact ⟨A3 i, _, rfl, DPut.t hv hb hz', h3 A3 σ _ q1 (s3.step q1 q2)⟩
        · exact h3.elim
  | _ => exact h3.elim
theorem ds_setL {o i e : Expr} {pos pos' : Pos} {me mo mi : ME} (he : PE X e (LE k W me)) (hg : PG X (.Subscript o i pos') (gSub (LE k W mo) (LE k W mi) rSetL))
    (hs : swapsWithSole [.Subscript o i pos'] e pos.line X.env = pure false := by rfl) (hw : swappedStores [.Subscript o i pos'] e X.env = pure none := by rfl) (h1 : (assignEach [.Subscript o i pos'] X.env).map (·.2) = [assign (.Subscript o i pos') X.env] := by rfl) :
    PS X (.Assign [.Subscript o i pos'] e pos) (LS k W (sSetL me mo mi)) := (ps_asg he hg hs hw h1).cq fun _ _ _ h => ls_setL h
theorem ds_put {o i e : Expr} {pos pos' : Pos} {me mo mi : ME} (hu : X.A.units + 1 < cLine) (he : PE X e (LE k W me)) (ho : PE X o (LE k W mo)) (hi : PE X i (LE k W mi)) (hs : swapsWith e (some (.Subscript o i pos')) pos.line X.env = pure false := by rfl) :
    PS X (.Assign [.Subscript o i pos'] e pos) (LS k W (sPut me mo mi)) := (ps_dput hu ho hi he hs).cq fun _ _ _ h => ls_put h
end
/-! ### list methods that write -/
def mAppend (mo me : ME) : ME := fun F C => bnd (mo F C) fun o C1 => if (vL o C1).isSome = true then bnd (me F C1) fun v C2 => match cL o C2 with
    | some (i, ds) => if szN (ds.length + 1) = true then match wr F.fl i (.lst (ds ++ [v])) C2 with
      | some C3 => .ok .non C3
      | none => .stuck
      else .stuck
    | none => .stuck
  else .stuck
def mInsert (mo mi me : ME) : ME := fun F C => bnd (mo F C) fun o C1 => if (vL o C1).isSome = true then bnd (mi F C1) fun x C2 => bnd (me F C2) fun v C3 => match x, cL o C3 with
    | .int n, some (i, ds) => if szN (ds.length + 1) = true ∧ 0 ≤ n ∧ n < 2 ^ 63 then match wr F.fl i (.lst (ds.take n.toNat ++ [v] ++ ds.drop n.toNat)) C3 with
      | some C4 => .ok .non C4
      | none => .stuck
      else .stuck
    | _, _ => .stuck
  else .stuck
section
variable {X : Cx} {k : Cn} {W : WX} {σ : L2.St} {H : Hp} {Q : VK}
theorem tyL {A : Nat → Addr} {C : Store} {v : V} {d : D} (st : StOk k A C H) (r : Rep k A C H v d) (h : (vL d C).isSome = true) : tyV k.K "list" v H := by
  obtain ⟨xs, e⟩ := Option.isSome_iff_exists.mp h
  obtain ⟨a, vs, rfl, ha, _⟩ := vL_at st r e
  exact Or.inl ⟨rfl, vs, .inl (.inl ha)⟩
theorem le_append {mo me : ME} (h : LE k W (mAppend mo me) σ H Q) : tBM k.K "list" rAppend (LE k W mo) (tCons (LE k W me) tNil) σ H Q := by
  obtain ⟨A, F, C, s, h⟩ := h
  refine ⟨A, F, C, s, (Aft.bnd (rel := RepD k) h).mono fun dO C1 A1 H1 o p1 st1 ro h1 => ?_⟩
  have s1 := s.step p1 st1
  split at h1
  · rename_i hs
    refine ⟨tyL st1 ro hs, A1, F, C1, s1, (Aft.bnd (rel := RepD k) h1).mono fun dv C2 A2 H2 v p2 st2 rv h2 => ?_⟩
    cases ec : cL dO C2 with
    | none => simp only [ec] at h2; exact h2.elim
    | some q =>
      obtain ⟨i, ds⟩ := q
      simp only [ec] at h2
      obtain ⟨rfl, rfl, hi, vs, hv, rvs⟩ := cL_at st2 (p2.rep _ _ ro) ec
      split at h2
      · rename_i hz
        cases ew : wr F.fl i (.lst (ds ++ [dv])) C2 with
        | none => simp only [ew] at h2; exact h2.elim
        | some C3 =>
          simp only [ew] at h2
          obtain ⟨q1, q2⟩ := write_L st2 hi (rvs.append (.cons rv .nil)) ew
          exact ⟨A2 i, vs, v, rfl, rfl, hv, by have := szN_le hz; rw [rvs.length]; omega, h2 A2 _ .non q1 q2 .non⟩
      · exact h2.elim
  · exact h1.elim
theorem le_insert {mo mi me : ME} (h : LE k W (mInsert mo mi me) σ H Q) : tBM k.K "list" (fun x vs H Q => ∃ (l : Addr) (xs : List V) (i : Int) (y : V), x = .ref l ∧ vs = [.int i, y] ∧ H l = some (.lst xs) ∧ xs.length < sizeLine ∧ 0 ≤ i ∧ i < 2 ^ 63 ∧
    Q .non (upd H l (.lst (xs.take i.toNat ++ [y] ++ xs.drop i.toNat)))) (LE k W mo) (tCons (LE k W mi) (tCons (LE k W me) tNil)) σ H Q := by
  obtain ⟨A, F, C, s, h⟩ := h
  refine ⟨A, F, C, s, (Aft.bnd (rel := RepD k) h).mono fun dO C1 A1 H1 o p1 st1 ro h1 => ?_⟩
  have s1 := s.step p1 st1
  split at h1
  · rename_i hs
    refine ⟨tyL st1 ro hs, A1, F, C1, s1, (Aft.bnd (rel := RepD k) h1).mono fun dx C2 A2 H2 x p2 st2 rx h2 => ?_⟩
    have s2 := s1.step p2 st2
    refine ⟨A2, F, C2, s2, (Aft.bnd (rel := RepD k) h2).mono fun dv C3 A3 H3 v p3 st3 rv h3 => ?_⟩
    cases rx with
    | int n =>
      cases ec : cL dO C3 with
      | none => simp only [ec] at h3; exact h3.elim
      | some q =>
        obtain ⟨i, ds⟩ := q
        simp only [ec] at h3
        obtain ⟨rfl, rfl, hi, vs, hv, rvs⟩ := cL_at st3 (p3.rep _ _ (p2.rep _ _ ro)) ec
        split at h3
        · rename_i hz
          obtain ⟨hz, hn0, hn1⟩ := hz
          cases ew : wr F.fl i (.lst (ds.take n.toNat ++ [dv] ++ ds.drop n.toNat)) C3 with
          | none => simp only [ew] at h3; exact h3.elim
          | some C4 =>
            simp only [ew] at h3
            obtain ⟨q1, q2⟩ := write_L st3 hi (((rvs.take n.toNat).append (.cons rv .nil)).append (rvs.drop n.toNat)) ew
            exact ⟨A3 i, vs, n, v, rfl, rfl, hv, by have := szN_le hz; rw [rvs.length]; omega, hn0, hn1, h3 A3 _ .non q1 q2 .non⟩
        · exact h3.elim
    | _ => exact h3.elim
  · exact h1.elim
variable {o e e2 : Expr} {apos cpos : Pos} {mo me mi : ME}
theorem de_append (hK : X.K = k.K := by rfl) (ho : PE X o (LE k W mo)) (he : PE X e (LE k W me)) (hs : starEach [e] X.env = (false, eval e X.env) :: starEach [] X.env := by rfl) (hbase : attributeBase o "append" X.env (eval o X.env) = eval o X.env := by rfl)
    (hfew : ((backTo cpos (starEach [e] X.env)).all (fun x => !x.1) && (backToKw cpos (keywordEach [] X.env)).all (fun x => x.1.isSome) && decide ([e].length + ([] : List Keyword).length + (if ([] : List Keyword).isEmpty then 0 else 1) < 30)) = true := by rfl)
    (hline : (apos.endLine == cpos.line) = true := by rfl) (hplain : (backTo cpos (starEach [] X.env)).any (·.1) = false := by rfl) : PE X (.Call (.Attribute o "append" apos) [e] [] cpos) (LE k W (mAppend mo me)) :=
  (pe_bm PySem.F.plainAttrs_list PySem.F.slot_list_append PySem.F.type_list_append mt_append ho (pa_cons he pa_nil hs) hbase hfew hline hs hplain).cq fun _ _ _ h => by
    rw [hK]
    exact le_append h
theorem de_insert (hK : X.K = k.K := by rfl) (ho : PE X o (LE k W mo)) (hi : PE X e (LE k W mi)) (he : PE X e2 (LE k W me)) (hs : starEach [e, e2] X.env = (false, eval e X.env) :: starEach [e2] X.env := by rfl) (hs2 : starEach [e2] X.env = (false, eval e2 X.env) :: starEach [] X.env := by rfl) (hbase : attributeBase o "insert" X.env (eval o X.env) = eval o X.env := by rfl)
    (hfew : ((backTo cpos (starEach [e, e2] X.env)).all (fun x => !x.1) && (backToKw cpos (keywordEach [] X.env)).all (fun x => x.1.isSome) && decide ([e, e2].length + ([] : List Keyword).length + (if ([] : List Keyword).isEmpty then 0 else 1) < 30)) = true := by rfl)
    (hline : (apos.endLine == cpos.line) = true := by rfl) (hplain : (backTo cpos (starEach [e2] X.env)).any (·.1) = false := by rfl) : PE X (.Call (.Attribute o "insert" apos) [e, e2] [] cpos) (LE k W (mInsert mo mi me)) :=
  (pe_bm PySem.F.plainAttrs_list PySem.F.slot_list_insert PySem.F.type_list_insert mt_insert ho (pa_cons hi (pa_cons he pa_nil hs2) hs) hbase hfew hline hs hplain).cq fun _ _ _ h => by
    rw [hK]
    exact le_insert h
end
end CT
set_option maxHeartbeats 4000000
/-! DL6: targets, loops, comprehensions over data. -/
namespace CT
open PySem L2
/-! ### targets of names -/
def Tgt.T (K : PySem.W.Frag) : Tgt → TG
  | .nm i => gName i
  | .tp is => gTup K is.length (gsN is)
  | .np is l => gTup K 2 (gCons (gTup K is.length (gsN is)) (gCons (gName l) gNil))
def Tgt.slots : Tgt → List Nat
  | .nm i => [i]
  | .tp is => is
  | .np is l => l :: is
theorem wipe_get {σ : L2.St} {j : Nat} : ∀ {vs : List Nat}, (wipe σ vs)[j]? = if j ∈ vs then (if j < σ.length then some none else none) else σ[j]?
  | [] => by simp [wipe]
  | v :: vs => by
    unfold wipe
    have ih := wipe_get (σ := σ) (j := j) (vs := vs)
    by_cases e : v = j
    · subst e
      by_cases hl : v < σ.length
      · rw [List.getElem?_set_self (by rw [wipe_length]; exact hl), if_pos (by simp), if_pos hl]
      · rw [List.getElem?_eq_none (by rw [List.length_set, wipe_length]; omega), if_pos (by simp), if_neg hl]
    · rw [List.getElem?_set_ne e, ih]
      by_cases hj : j ∈ vs
      · rw [if_pos hj, if_pos (List.mem_cons_of_mem _ hj)]
      · rw [if_neg hj, if_neg (by simp; exact ⟨fun z => e z.symm, hj⟩)]
theorem wipe_set {σ : L2.St} {i : Nat} {x : Option V} {vs : List Nat} (h : i ∈ vs) : wipe (σ.set i x) vs = wipe σ vs := by
  apply List.ext_getElem?
  intro j
  rw [wipe_get, wipe_get, List.length_set]
  by_cases hj : j ∈ vs
  · rw [if_pos hj, if_pos hj]
  · rw [if_neg hj, if_neg hj, List.getElem?_set_ne (fun (e : i = j) => hj (by rw [← e]; exact h))]
theorem wipe_wipe {σ : L2.St} {vs : List Nat} : wipe (wipe σ vs) vs = wipe σ vs := by
  apply List.ext_getElem?
  intro j
  rw [wipe_get, wipe_length]
  by_cases hj : j ∈ vs
  · rw [if_pos hj, wipe_get, if_pos hj]
  · rw [if_neg hj]
section
variable {k : Cn} {A : Nat → Addr} {F : Fr} {C : Store} {σ : L2.St} {H : Hp} {fl : Nat} {sl : List (Option D)}
theorem SR.wipe (s : SR k A ⟨fl, sl⟩ C σ H) : ∀ vs : List Nat, SR k A ⟨fl, wipeD sl vs⟩ C (L2.wipe σ vs) H
  | [] => s
  | v :: vs => (SR.wipe s vs).unset
theorem gsN_of2 {Q : L2.St → Hp → Prop} {vs0 : List Nat} : ∀ {is : List Nat} {vs : List V} {ds : List D} {sl sl' : List (Option D)} {σ : L2.St}, SR k A ⟨fl, sl⟩ C σ H → RepL k A C H vs ds → setAll is ds sl = some sl' →
    (∀ σ', SR k A ⟨fl, sl'⟩ C σ' H → ((∀ i ∈ is, i ∈ vs0) → L2.wipe σ' vs0 = L2.wipe σ vs0) → Q σ' H) → gsN is vs σ H Q
  | [], _, _, _, _, _, s, .nil, e, q => by
    cases e
    exact ⟨rfl, q _ s fun _ => rfl⟩
  | i :: is, _, _, _, _, _, s, .cons r t, e, q => by
    refine ⟨_, _, rfl, gsN_of2 (vs0 := vs0) (is := is) (s.set (i := i) r) t e fun σ' s' w => q σ' s' fun hi => ?_⟩
    rw [w fun j hj => hi j (List.mem_cons_of_mem _ hj)]
    exact wipe_set (hi i (List.mem_cons_self ..))
  | [], _, _, _, _, _, s, .cons r t, e, q => by cases e
  | i :: is, _, _, _, _, _, s, .nil, e, q => by cases e
theorem Tgt.of {t : Tgt} {v : V} {d : D} {sl' : List (Option D)} {Q : L2.St → Hp → Prop} {vs0 : List Nat} (s : SR k A ⟨fl, sl⟩ C σ H) (r : Rep k A C H v d) (e : t.M d sl = some sl')
    (q : ∀ σ', SR k A ⟨fl, sl'⟩ C σ' H → ((∀ i ∈ t.slots, i ∈ vs0) → L2.wipe σ' vs0 = L2.wipe σ vs0) → Q σ' H) : t.T k.K v σ H Q := by
  cases t with
  | nm i =>
    cases e
    exact q _ (s.set r) fun hi => wipe_set (hi i (by simp [Tgt.slots]))
  | tp is =>
    simp only [Tgt.M, gT] at e
    cases ev : vT d with
    | none => rw [ev] at e; cases e
    | some ds =>
      rw [ev] at e
      obtain ⟨a, vs, rfl, hs, rl⟩ := vT_at r ev
      exact ⟨a, vs, rfl, hs, by rw [rl.length, setAll_len e], gsN_of2 (vs0 := vs0) s rl e q⟩
  | np is l =>
    simp only [Tgt.M, gNP] at e
    split at e
    · rename_i x y ev
      obtain ⟨a, vs, rfl, hs, rl⟩ := vT_at r ev
      simp only [gT, gN, Option.bind_eq_some_iff] at e
      obtain ⟨sl1, ⟨ds, ev2, e1⟩, e2⟩ := e
      cases e2
      cases rl with
      | cons r1 t1 =>
        cases t1 with
        | cons r2 t2 =>
          cases t2 with
          | nil =>
            obtain ⟨a2, vs2, rfl, hs2, rl2⟩ := vT_at r1 ev2
            refine ⟨a, _, rfl, hs, rfl, _, _, rfl, ⟨a2, vs2, rfl, hs2, by rw [rl2.length, setAll_len e1], gsN_of2 (vs0 := vs0) s rl2 e1 fun σ' s' w => ?_⟩⟩
            refine ⟨_, _, rfl, rfl, q _ (s'.set r2) fun hi => ?_⟩
            rw [← w fun i h => hi i (List.mem_cons_of_mem _ h)]
            exact wipe_set (hi l (List.mem_cons_self ..))
    · cases e
end
section
variable {X : Cx} {k : Cn} {W : WX} {E : Ends} {σ : L2.St} {H : Hp}
theorem tg_nm {i : Nat} {x : Str} {pos : Pos} (hN : X.N.Nodup) (hi : X.N[i]? = some x) (hx : Loc X.env.scope x) (hf : X.fn x = true ∨ X.env.scope.names.lookup x = some .local := by first | exact .inl rfl | exact .inr rfl | assumption) : PG X (.Name x pos) (Tgt.T k.K (.nm i)) := pg_name hN hi hx hf
theorem tg_tp {es : List Expr} {kk : Nat} {pos : Pos} (is : List Nat) (hK : X.K = k.K) (hc : X.calm = true) (h : PGs X es (gsN is)) (hn : (assignEach es X.env).length = is.length := by rfl) (hst : (assignEach es X.env).findIdx? (·.1) = none := by rfl) :
    PG X (.Tuple es kk pos) (Tgt.T k.K (.tp is)) := by
  have h' := pg_tup (k := kk) (pos := pos) hc h hn hst
  rw [hK] at h'
  exact h'
theorem ls_asg2 {m : ME} {t : Tgt} (h : LS k W (sAsg m t.M) E σ H) : tAsg (LE k W m) (t.T k.K) E σ H := by
  obtain ⟨A, F, C, s, h⟩ := h
  refine ⟨A, F, C, s, (AftS.bnd (rel := RepD k) s h).mono fun d C1 A1 H1 v p st r h1 => ?_⟩
  cases e : t.M d F.sl with
  | none => rw [e] at h1; exact h1.elim
  | some sl =>
    rw [e] at h1
    exact Tgt.of (vs0 := []) (s.step p st) r e fun σ' s' _ => h1 A1 σ' H1 Stp.refl s'
theorem ds_asgT {tg e : Expr} {pos : Pos} {m : ME} {t : Tgt} (he : PE X e (LE k W m)) (hg : PG X tg (t.T k.K)) (hs : swapsWithSole [tg] e pos.line X.env = pure false := by rfl) (hw : swappedStores [tg] e X.env = pure none := by rfl)
    (h1 : (assignEach [tg] X.env).map (·.2) = [assign tg X.env] := by rfl) : PS X (.Assign [tg] e pos) (LS k W (sAsg m t.M)) := (ps_asg he hg hs hw h1).cq fun _ _ _ h => ls_asg2 h
end
/-! ### what is walked -/
def ItOk (k : Cn) (fl : Nat) (J : It) (it : ItD) (A : Nat → Addr) (C : Store) (H : Hp) : Prop := ∀ A' C' H', Stp k fl A C H A' C' H' → StOk k A' C' H' →
  (∀ j d, j < it.n → it.item j C' = some d → J.go j H' ∧ ∀ x H'', J.yld j H' x H'' → ∃ A'', Stp k fl A' C' H' A'' C' H'' ∧ StOk k A'' C' H'' ∧ Rep k A'' C' H'' x d) ∧ (it.fin C' = true → J.stop it.n H')
def LI (k : Cn) (W : WX) (m : MI) : TI := fun σ H Rr => ∃ A F C, SR k A F C σ H ∧ Aft k F.fl A C H (fun A C H (J : It) (it : ItD) => ItOk k F.fl J it A C H) (m F C) (fun _ _ _ H' J => Rr J H') (fun c d H' => W c d σ H')
/-! ### for -/
section
variable {X : Cx} {k : Cn} {W : WX} {E : Ends} {σ : L2.St} {H : Hp}
theorem ls_for {mi : MI} {t : Tgt} {body : MS} (h : LS k W (sFor mi t.M body) E σ H) : tFor (LI k W mi) (t.T k.K) (LS k W body) E σ H := by
  obtain ⟨A, F, C, s, h⟩ := h
  refine ⟨A, F, C, s, (AftS.bnd (rel := fun A C H (J : It) (it : ItD) => ItOk k F.fl J it A C H) s h).mono fun it C1 A1 H1 J p1 st1 ok h1 => ?_⟩
  refine ⟨fun i m σ' H' => ∃ A' C' sl, m = it.n - i ∧ i ≤ it.n ∧ Stp k F.fl A1 C1 H1 A' C' H' ∧ SR k A' ⟨F.fl, sl⟩ C' σ' H' ∧ AftS k W F.fl A' C' H' (loopN it t.M body F.fl (it.n - i) i sl C') E,
    ⟨it.n, A1, C1, F.sl, rfl, Nat.zero_le _, Stp.refl, s.step p1 st1, h1⟩, ?_⟩
  rintro i m σ' H' ⟨A', C', sl, rfl, hi, p, s', h'⟩
  obtain ⟨o1, o2⟩ := ok A' C' H' p s'.st
  cases er : it.n - i with
  | zero =>
    rw [er] at h'
    unfold loopN at h'
    have e : i = it.n := by omega
    split at h'
    · rename_i hf
      subst e
      exact .inl ⟨o2 hf, h' A' σ' H' Stp.refl s'⟩
    · exact h'.elim
  | succ r =>
    rw [er] at h'
    unfold loopN at h'
    have hlt : i < it.n := by omega
    cases ei : it.item i C' with
    | none => simp only [ei] at h'; exact h'.elim
    | some d =>
      simp only [ei] at h'
      obtain ⟨g1, g2⟩ := o1 i d hlt ei
      cases eg : t.M d sl with
      | none => simp only [eg] at h'; exact h'.elim
      | some sl1 =>
        simp only [eg] at h'
        refine .inr ⟨g1, fun σ2 H2 => ∃ A2 C2 sl2, i + 1 ≤ it.n ∧ Stp k F.fl A1 C1 H1 A2 C2 H2 ∧ SR k A2 ⟨F.fl, sl2⟩ C2 σ2 H2 ∧ AftS k W F.fl A2 C2 H2 (loopN it t.M body F.fl (it.n - (i + 1)) (i + 1) sl2 C2) E,
          fun σ2 H2 ⟨A2, C2, sl2, a, b, c, d⟩ => ⟨it.n - (i + 1), by omega, A2, C2, sl2, rfl, a, b, c, d⟩, fun x H'' y => ?_⟩
        obtain ⟨A'', p2, st2, rx⟩ := g2 x H'' y
        have s2 := s'.step p2 st2
        refine Tgt.of (vs0 := []) s2 rx eg fun σ2 s3 _ => ⟨A'', ⟨F.fl, sl1⟩, C', s3, ?_⟩
        have hr : it.n - (i + 1) = r := by omega
        cases eb : body ⟨F.fl, sl1⟩ C' with
        | nx sl2 C2 =>
          simp only [eb] at h'
          intro A3 σ3 H3 p3 s4
          have pp := p2.trans p3
          exact ⟨A3, C2, sl2, by omega, p.trans pp, s4, by rw [hr]; exact h'.shift pp⟩
        | ct sl2 C2 =>
          simp only [eb] at h'
          intro A3 σ3 H3 p3 s4
          have pp := p2.trans p3
          exact ⟨A3, C2, sl2, by omega, p.trans pp, s4, by rw [hr]; exact h'.shift pp⟩
        | bk sl2 C2 =>
          simp only [eb] at h'
          exact fun A3 σ3 H3 p3 s4 => h' A3 σ3 H3 (p2.trans p3) s4
        | rt d C2 =>
          simp only [eb] at h'
          exact fun A3 H3 v p3 st r => h' A3 H3 v (p2.trans p3) st r
        | xc e sl2 C2 =>
          simp only [eb] at h'
          exact fun A3 σ3 H3 dd vs p3 s4 x l r => h' A3 σ3 H3 dd vs (p2.trans p3) s4 x l r
        | stuck =>
          simp only [eb] at h'
          exact h'.elim
theorem _root_.L2.PI.cq {X : Cx} {tg e : Expr} {t t' : TI} (h : PI X tg e t) (c : ∀ σ H R, t' σ H R → t σ H R) : PI X tg e t' := ⟨fun pins s σ H R I q => h.run pins s σ H R I (c σ H R q)⟩
end
/-! ### list comprehensions -/
abbrev WF : WX := fun _ _ _ _ => False
section
variable {X : Cx} {k : Cn} {W : WX} {σ : L2.St} {H : Hp} {Q : VK}
/-- the list cell becomes plain data -/
theorem fz_end {fl n : Nat} {A A' : Nat → Addr} {C C' : Store} {H H' : Hp} {p : Addr} {acc : List D} (hn : n = C.length) (st0 : StOk k A C H) (st : StOk k A' C' H') (s : Stp k fl A C H A' C' H') (hf : fl ≤ n) (hl : n ≤ C'.length) (low : LowC n C') (ha : A' n = p) (hc : C'[n]? = some (some (.lst acc))) (hcb : cbL n acc = true) :
    Stp k fl A C H A' (C'.take n) H' ∧ StOk k A' (C'.take n) H' ∧ Rep k A' (C'.take n) H' (.ref p) (.lst acc) := by
  obtain ⟨vs, hv, rv⟩ := st.at_ n _ hc
  have tl : (C'.take n).length = n := by rw [List.length_take]; omega
  refine ⟨⟨fun v d r => (s.rep v d r).cut hl (by rw [hn]; exact r.cb), by rw [tl, hn]; exact Nat.le_refl _, fun f h1 h2 l => low_take (s.low f h1 h2 l), s.frz⟩, st.take hl low, ?_⟩
  rw [← ha]
  refine .lst (fun l => ?_) hv (rv.cut hl hcb)
  obtain ⟨i, c, e, z⟩ := l
  by_cases hi : i < n
  · rw [List.getElem?_take_of_lt hi] at e
    exact absurd (st.inj i n _ _ e hc z) (Nat.ne_of_lt hi)
  · rw [List.getElem?_eq_none (by rw [tl]; omega)] at e
    cases e
/-- the new list: at D, the cell n -/
theorem cell_at {A A' : Nat → Addr} {C C' : Store} {H H' : Hp} {fl n : Nat} {p : Addr} (s : Stp k fl A C H A' C' H') (h : A n = p) (hn : n < C.length) : A' n = p ∧ n < C'.length := by
  have r : Rep k A C H (.ref (A n)) (.cell n) := .cell hn
  have r' := s.rep _ _ r
  rw [h] at r'
  have inv : ∀ {v : V} {d : D}, Rep k A' C' H' v d → v = .ref p → d = .cell n → A' n = p ∧ n < C'.length := by
    intro v d r hv hd
    cases r with
    | cell hi => cases hd; cases hv; exact ⟨rfl, hi⟩
    | _ => cases hd
  exact inv r' rfl rfl
theorem push_L {A : Nat → Addr} {C : Store} {H : Hp} {fl n : Nat} {p : Addr} {acc : List D} {y : D} {v : V} {ws : List V} (hf : fl ≤ n) (st : StOk k A C H) (ha : A n = p) (hc : C[n]? = some (some (.lst acc))) (hw : H p = some (.lst ws)) (r : Rep k A C H v y) :
    Stp k fl A C H A (C.set n (some (.lst (acc ++ [y])))) (upd H p (.lst (ws ++ [v]))) ∧ StOk k A (C.set n (some (.lst (acc ++ [y])))) (upd H p (.lst (ws ++ [v]))) := by
  obtain ⟨vs, hv, rv⟩ := st.at_ n _ hc
  rw [ha, hw] at hv
  cases hv
  have q : Kp A C H A (C.set n (some (.lst (acc ++ [y])))) (upd H (A n) (.lst (ws ++ [v]))) := kp_write st hc
  rw [← ha]
  exact ⟨q.stp fun f h1 h2 l => low_set (fl := fl) (fun hi => absurd hi (Nat.not_lt.mpr hf)) h1 l, st.write hc ⟨_, upd_same, (rv.append (.cons r .nil)).kp q⟩⟩
theorem bn0_inv {fl : Nat} {A : Nat → Addr} {C : Store} {H : Hp} {m : R Unit} {f : Unit → Store → R D} {Q : D → Store → (Nat → Addr) → Hp → V → Prop} {W' : XK} (h : Aft k fl A C H (RepD k) (CT.bn0 m f) Q W') : ∃ C3, m = .ok () C3 ∧ Aft k fl A C H (RepD k) (f () C3) Q W' := by
  cases m with
  | ok d C' => exact ⟨C', rfl, h⟩
  | exc e C' => exact h.elim
  | stuck => exact h.elim
theorem Stp.less {fl n : Nat} {A A' : Nat → Addr} {C C' : Store} {H H' : Hp} (p : Stp k n A C H A' C' H') (h : fl ≤ n) : Stp k fl A C H A' C' H' := ⟨p.rep, p.len, fun f hf => p.low f (Nat.le_trans hf h), p.frz⟩
theorem SR.re {fl n : Nat} {A A' : Nat → Addr} {F : Fr} {C C' : Store} {H H' : Hp} (s : SR k A F C σ H) (p : Stp k fl A C H A' C' H') (st : StOk k A' C' H') (low : LowC n C') (hn : n ≤ C'.length) : SR k A' ⟨n, F.sl⟩ C' σ H' :=
  ⟨st, low, hn, s.len, fun i d e => let ⟨v, h1, h2⟩ := s.sl i d e; ⟨v, h1, p.rep v d h2⟩⟩
theorem le_lcEnd {own : Bool} {fl : Nat} {A A1 A' : Nat → Addr} {C C1 C' : Store} {H H1 H' : Hp} {Dl : Addr} {W' : XK} (hf : fl ≤ C1.length) (p : Stp k fl A C H A1 C1 H1) (st1 : StOk k A1 C1 H1) (p' : Stp k fl A1 C1 H1 A' C' H') (low : LowC C1.length C') (st' : StOk k A' C' H') (ha : A' C1.length = Dl) (hl : C1.length < C'.length)
    (h : Aft k fl A C H (RepD k) (lcEnd own C1.length C') (fun _ _ _ H' v => Q v H') W') : Q (.ref Dl) H' := by
  unfold lcEnd at h
  cases own with
  | true =>
    have r : Rep k A' C' H' (.ref (A' C1.length)) (.cell C1.length) := .cell hl
    rw [ha] at r
    exact h A' H' _ (p.trans p') st' r
  | false =>
    split at h
    · rename_i z; cases z
    · split at h
      · rename_i acc hc
        split at h
        · rename_i hcb
          obtain ⟨q1, q2, q3⟩ := fz_end (k := k) (fl := fl) rfl st1 st' p' hf (Nat.le_of_lt hl) low ha hc hcb
          exact h A' H' _ (p.trans q1) q2 q3
        · exact h.elim
      · exact h.elim
theorem le_lc {own : Bool} {mi : MI} {t : Tgt} {tt : MT} {te : ME} {vs : List Nat} (hv : ∀ i ∈ t.slots, i ∈ vs) (h : LE k W (mLc own mi t.M tt te vs) σ H Q) : tLc (LI k W mi) (t.T k.K) (LT k WF tt) (LE k WF te) vs σ H Q := by
  obtain ⟨A, F, C, s, h⟩ := h
  refine ⟨A, F, C, s, (Aft.bnd (rel := fun A C H (J : It) (it : ItD) => ItOk k F.fl J it A C H) h).mono fun it C1 A1 H1 J p1 st1 ok h1 => ?_⟩
  have s1 := s.step p1 st1
  intro Dl hD
  have q0 : Kp A1 C1 H1 (ext A1 C1.length Dl) (C1 ++ [some (.lst [])]) (upd H1 Dl (.lst [])) := kp_cell (k := k) st1 hD
  have p2 : Stp k C1.length A1 C1 H1 (ext A1 C1.length Dl) (C1 ++ [some (.lst [])]) (upd H1 Dl (.lst [])) := q0.stp fun f h1 h2 l => low_app h2 l
  have p2' : Stp k F.fl A1 C1 H1 (ext A1 C1.length Dl) (C1 ++ [some (.lst [])]) (upd H1 Dl (.lst [])) := ⟨p2.rep, p2.len, fun f hf => p2.low f (Nat.le_trans hf s1.fl), p2.frz⟩
  have st2 : StOk k (ext A1 C1.length Dl) (C1 ++ [some (.lst [])]) (upd H1 Dl (.lst [])) := st1.cell hD ⟨[], upd_same, .nil⟩
  have n1 : C1.length < (C1 ++ [some (Cell.lst [])]).length := by simp
  have low1 : LowC C1.length (C1 ++ [some (Cell.lst [])]) := p2.low _ (Nat.le_refl _) (Nat.le_refl _) st1.low
  obtain ⟨C3, e3, h3⟩ := bn0_inv h1
  refine ⟨fun i m H' => ∃ A' C', m = it.n - i ∧ i ≤ it.n ∧ Stp k C1.length (ext A1 C1.length Dl) (C1 ++ [some (.lst [])]) (upd H1 Dl (.lst [])) A' C' H' ∧ StOk k A' C' H' ∧ lcN it t.M tt te C1.length (wipeD F.sl vs) (it.n - i) i C' = .ok () C3,
    ⟨it.n, _, _, rfl, Nat.zero_le _, Stp.refl, st2, e3⟩, ?_⟩
  rintro i m H' ⟨A', C', rfl, hi, p, st', h'⟩
  obtain ⟨ha', hl'⟩ := cell_at p (ext_at A1 C1.length Dl) n1
  have low' : LowC C1.length C' := p.low _ (Nat.le_refl _) (Nat.le_of_lt n1) low1
  have pF : Stp k F.fl (ext A1 C1.length Dl) (C1 ++ [some (.lst [])]) (upd H1 Dl (.lst [])) A' C' H' := p.less s1.fl
  obtain ⟨o1, o2⟩ := ok A' C' H' (p2'.trans pF) st'
  cases er : it.n - i with
  | zero =>
    rw [er] at h'
    unfold lcN at h'
    have e : i = it.n := by omega
    split at h'
    · rename_i hf
      cases h'
      subst e
      exact .inl ⟨o2 hf, le_lcEnd s1.fl Stp.refl st1 (p2'.trans pF) low' st' ha' hl' h3⟩
    · cases h'
  | succ r =>
    rw [er] at h'
    unfold lcN at h'
    have hlt : i < it.n := by omega
    have hr : it.n - (i + 1) = r := by omega
    cases ei : it.item i C' with
    | none => simp only [ei] at h'; cases h'
    | some d =>
      simp only [ei] at h'
      obtain ⟨g1, g2⟩ := o1 i d hlt ei
      cases eg : t.M d (wipeD F.sl vs) with
      | none => simp only [eg] at h'; cases h'
      | some sl1 =>
        simp only [eg] at h'
        refine .inr ⟨g1, fun H4 => ∃ A4 C4, Stp k C1.length (ext A1 C1.length Dl) (C1 ++ [some (.lst [])]) (upd H1 Dl (.lst [])) A4 C4 H4 ∧ StOk k A4 C4 H4 ∧ lcN it t.M tt te C1.length (wipeD F.sl vs) (it.n - (i + 1)) (i + 1) C4 = .ok () C3,
          fun H4 ⟨A4, C4, a, b, c⟩ => ⟨it.n - (i + 1), by omega, A4, C4, rfl, by omega, a, b, c⟩, fun x H'' y => ?_⟩
        obtain ⟨A'', py, sty, rx⟩ := g2 x H'' y
        have py' : Stp k C1.length A' C' H' A'' C' H'' := ⟨py.rep, py.len, fun f _ _ h => h, py.frz⟩
        have sr : SR k A'' ⟨C1.length, wipeD F.sl vs⟩ C' (L2.wipe σ vs) H'' := ((s1.re (p2.trans (p.trans py')) sty low' (Nat.le_of_lt hl')).wipe vs)
        refine Tgt.of (vs0 := vs) sr rx eg fun σ2 s2 w2 => ⟨by rw [w2 hv, wipe_wipe], A'', ⟨C1.length, sl1⟩, C', s2, ?_⟩
        cases et : tt ⟨C1.length, sl1⟩ C' with
        | ok b C5 =>
          rw [et] at h'
          simp only [bn0_ok] at h'
          intro A5 H5 v5 p5 st5 e5
          have e5 : v5 = b := e5
          subst e5
          have s5 := s2.step p5 st5
          cases v5 with
          | true =>
            rw [if_pos rfl] at h'
            refine iteT ⟨A5, ⟨C1.length, sl1⟩, C5, s5, ?_⟩
            cases ee : te ⟨C1.length, sl1⟩ C5 with
            | ok yd C6 =>
              rw [ee] at h'
              simp only [bn0_ok] at h'
              intro A6 H6 v6 p6 st6 r6
              have pall := (p.trans py').trans (p5.trans p6)
              obtain ⟨ha6, hl6⟩ := cell_at pall (ext_at A1 C1.length Dl) n1
              split at h'
              · rename_i acc hc
                split at h'
                · rename_i hz
                  obtain ⟨ws, hw, rw6⟩ := st6.at_ _ _ hc
                  rw [ha6] at hw
                  obtain ⟨q1, q2⟩ := push_L (k := k) (fl := C1.length) (Nat.le_refl _) st6 ha6 hc hw r6
                  refine ⟨ws, hw, by have := szN_le hz; rw [rw6.length]; omega, A6, _, pall.trans q1, q2, ?_⟩
                  rw [hr]
                  exact h'
                · cases h'
              · cases h'
            | exc e C6 => rw [ee] at h'; cases h'
            | stuck => rw [ee] at h'; cases h'
          | false =>
            rw [if_neg (by decide)] at h'
            refine iteF ⟨A5, C5, (p.trans py').trans p5, st5, ?_⟩
            rw [hr]
            exact h'
        | exc e C5 => rw [et] at h'; cases h'
        | stuck => rw [et] at h'; cases h'
theorem de_lc {elt tg iter : Expr} {ifs : List Expr} {scope : Scope} {own : List (Str × Nat)} {pos : Pos} {mi : MI} {t : Tgt} {tt : MT} {te : ME} (ow : Bool) (hK : X.K = k.K) (hc : X.calm = true) (hN : X.N.Nodup) (hi : PI X tg iter (LI k W mi)) (ok : BlkOk X.N X.env.scope scope own) (hv : ∀ i ∈ t.slots, i ∈ own.map (·.2))
    (hg : ∀ (s : Shared) (H : Hp) (C : Addr) (cl : List (Str × Addr)) (fp : List Addr), PG (X.blk s H scope (compEnvC scope cl C X.env) fp) tg (t.T k.K)) (ht : ∀ (s : Shared) (H : Hp) (C : Addr) (cl : List (Str × Addr)) (fp : List Addr), PTs (X.blk s H scope (compEnvC scope cl C X.env) fp) ifs (LT k WF tt))
    (he : ∀ (s : Shared) (H : Hp) (C : Addr) (cl : List (Str × Addr)) (fp : List Addr), PE (X.blk s H scope (compEnvC scope cl C X.env) fp) elt (LE k WF te)) (hs : ∀ x, foldedSetIterable iter X.env x = pure x := by intro _; rfl) :
    PE X (.ListComp elt [⟨tg, iter, ifs, 0⟩] scope pos) (LE k W (mLc ow mi t.M tt te (own.map (·.2)))) := (pe_lc hc hN hi ok hg ht he hs).cq fun _ _ _ h => le_lc hv h
end
end CT
set_option maxHeartbeats 4000000
/-! DL7: what is walked; defs. -/
namespace CT
open PySem L2
section
variable {X : Cx} {k : Cn} {W : WX} {E : Ends} {σ : L2.St} {H : Hp}
theorem ds_for {tg iter : Expr} {body : List Stmt} {pos : Pos} {mi : MI} {t : Tgt} {mb : MS} (hp : PassesOwn (model X.prog X.w) X.A X.env X.xe) (hc : X.calm = true) (hi : PI X tg iter (LI k W mi)) (hg : PG X tg (t.T k.K)) (hb : PSs X body (LS k W mb))
    (hs : ∀ x, foldedSetIterable iter X.env x = pure x := by intro _; rfl) : PS X (.For tg iter body [] pos) (LS k W (sFor mi t.M mb)) := (ps_for hp hc hi hg hb hs).cq fun _ _ _ h => ls_for h
/-! ### lists and tuples -/
def iSeq (K : PySem.W.Frag) (tl : TE) : TI := fun σ H R => tl σ H fun x H1 => ∃ a, x = .ref a ∧ (((∃ xs, SqL K H1 a xs) ∧ R (Itl K a) H1) ∨ ((∃ xs, SqT K H1 a xs) ∧ R (Itt K a) H1))
theorem pi_seq {tg l : Expr} {tl : TE} (hl : PE X l tl) : PI X tg l (iSeq X.K tl) := by
  refine ⟨fun pins s σ H R I h => ?_⟩
  refine thn (hl.run pins s σ H _ I h) fun v s1 ⟨x, H1, I1, r1, q1⟩ => ?_
  obtain ⟨a, e, ⟨⟨xs, hq⟩, q⟩ | ⟨⟨xs, hq⟩, q⟩⟩ := q1
  · subst e
    cases r1
    obtain ⟨its, rv, p, hz⟩ := I1.list hq
    refine wpAny_pyIter_list p.isList ?_
    refine ⟨s1.heap.objs.size, [s1.heap.objs.size], _, _, H1, rfl, I1.kept (t' := s1.toks) fun b o e => Heap.get?_push_of_some _ e, turn_list a _, ⟨_, Heap.get?_push_size _ rfl, rfl, rfl⟩, fun b hb => ?_, q⟩
    have e : b = s1.heap.objs.size := by simpa using hb
    subst e
    exact I1.fpOk (Nat.le_refl _) (I1.hok.fresh (Nat.le_refl _))
  · subst e
    cases r1
    obtain ⟨its, rv, p, hz⟩ := I1.tuple hq
    refine wpAny_pyIter_tuple (show s1.heap.IsTuple a its.toArray from p) ?_
    refine ⟨s1.heap.objs.size, [s1.heap.objs.size], _, _, H1, rfl, I1.kept (t' := s1.toks) fun b o e => Heap.get?_push_of_some _ e, turn_tuple a _, ⟨_, Heap.get?_push_size _ rfl, rfl, rfl⟩, fun b hb => ?_, q⟩
    have e : b = s1.heap.objs.size := by simpa using hb
    subst e
    exact I1.fpOk (Nat.le_refl _) (I1.hok.fresh (Nat.le_refl _))
theorem itC_L {fl : Nat} {A : Nat → Addr} {C : Store} {a : Addr} {xs : List D} (r : Rep k A C H (.ref a) (.lst xs)) : ItOk k fl (Itl k.K a) (itC xs) A C H := fun A' C' H' p st' => by
  cases p.rep _ _ r with
  | lst l h rv =>
    have hl : SqL k.K H' a _ := .inl (.inl h)
    refine ⟨fun j y hj ey => ?_, fun _ => ⟨_, hl, by rw [rv.length]; exact Nat.le_refl _⟩⟩
    obtain ⟨v, hv, rv1⟩ := rv.get ey
    exact ⟨⟨_, v, hl, hv⟩, fun x H'' ⟨e1, e2⟩ => by
      subst e1
      cases (e2 _ hl).symm.trans hv
      exact ⟨A', Stp.refl, st', rv1⟩⟩
theorem itC_T {fl : Nat} {A : Nat → Addr} {C : Store} {v : V} {d : D} {xs : List D} (r : Rep k A C H v d) (e : vT d = some xs) : ∃ a, v = .ref a ∧ (∃ vs, SqT k.K H a vs) ∧ ItOk k fl (Itt k.K a) (itC xs) A C H := by
  obtain ⟨a, vs, rfl, hs, _⟩ := vT_at r e
  refine ⟨a, rfl, ⟨vs, hs⟩, fun A' C' H' p st' => ?_⟩
  obtain ⟨a', vs', ea, hl, rv⟩ := vT_at (p.rep _ _ r) e
  cases ea
  refine ⟨fun j y hj ey => ?_, fun _ => ⟨_, hl, by rw [rv.length]; exact Nat.le_refl _⟩⟩
  obtain ⟨v, hv, rv1⟩ := rv.get ey
  exact ⟨⟨_, v, hl, hv⟩, fun x H'' ⟨e1, e2⟩ => by
    subst e1
    cases (e2 _ hl).symm.trans hv
    exact ⟨A', Stp.refl, st', rv1⟩⟩
theorem itV_L {fl : Nat} {A : Nat → Addr} {C : Store} {a : Addr} {i n : Nat} (r : Rep k A C H (.ref a) (.cell i)) : ItOk k fl (Itl k.K a) (itV i n) A C H := fun A' C' H' p st' => by
  cases p.rep _ _ r with
  | cell hi =>
    refine ⟨fun j y hj ey => ?_, fun hf => ?_⟩
    · simp only [itV] at ey
      split at ey
      · rename_i ys ec
        split at ey
        · obtain ⟨vs, hv, rv⟩ := st'.at_ i _ ec
          have hl : SqL k.K H' (A' i) vs := .inl (.inl hv)
          obtain ⟨v, hw, rv1⟩ := rv.get ey
          exact ⟨⟨_, v, hl, hw⟩, fun x H'' ⟨e1, e2⟩ => by
            subst e1
            cases (e2 _ hl).symm.trans hw
            exact ⟨A', Stp.refl, st', rv1⟩⟩
        · cases ey
      · cases ey
    · simp only [itV] at hf
      split at hf
      · rename_i ys ec
        obtain ⟨vs, hv, rv⟩ := st'.at_ i _ ec
        have := of_decide_eq_true hf
        exact ⟨vs, .inl (.inl hv), by show vs.length ≤ n; rw [rv.length]; omega⟩
      · cases hf
theorem li_seq {m : ME} {R : It → Hp → Prop} (h : LI k W (mSeq m) σ H R) : iSeq k.K (LE k W m) σ H R := by
  obtain ⟨A, F, C, s, h⟩ := h
  refine ⟨A, F, C, s, (Aft.bnd (rel := RepD k) h).mono fun d C1 A1 H1 v p st r h1 => ?_⟩
  have tup : ∀ xs, vT d = some xs → itS d C1 = some (itC xs) → ∃ a, v = .ref a ∧ (((∃ xs, SqL k.K H1 a xs) ∧ R (Itl k.K a) H1) ∨ ((∃ xs, SqT k.K H1 a xs) ∧ R (Itt k.K a) H1)) := fun xs e ei => by
    rw [ei] at h1
    obtain ⟨a, rfl, hs, ok⟩ := itC_T (fl := F.fl) r e
    exact ⟨a, rfl, .inr ⟨hs, h1 A1 H1 _ Stp.refl st ok⟩⟩
  cases d with
  | tup xs => exact tup xs rfl rfl
  | kt xs => exact tup xs rfl rfl
  | lst xs =>
    cases r with
    | lst l hh rv => exact ⟨_, rfl, .inl ⟨⟨_, .inl (.inl hh)⟩, h1 A1 H1 _ Stp.refl st (itC_L (.lst l hh rv))⟩⟩
  | cell i =>
    cases r with
    | cell hi =>
      simp only [itS] at h1
      split at h1
      · rename_i it e
        split at e
        · rename_i ys ec
          cases e
          obtain ⟨vs, hv, rv⟩ := st.at_ i _ ec
          exact ⟨_, rfl, .inl ⟨⟨vs, .inl (.inl hv)⟩, h1 A1 H1 _ Stp.refl st (itV_L (.cell hi))⟩⟩
        · cases e
      · exact h1.elim
  | _ => exact h1.elim
theorem di_seq {tg l : Expr} {m : ME} (hK : X.K = k.K) (hl : PE X l (LE k W m)) : PI X tg l (LI k W (mSeq m)) := (pi_seq hl).cq fun _ _ _ h => by
  rw [hK]
  exact li_seq h
/-! ### ranges -/
theorem itR_ok {fl : Nat} {A : Nat → Addr} {C : Store} {lo : Int} {n : Nat} : ItOk k fl (Itr lo n) (itR lo n) A C H := fun A' C' H' p st' =>
  ⟨fun j y hj ey => ⟨hj, fun x H'' ⟨e1, e2⟩ => by
    subst e1
    subst e2
    cases ey
    exact ⟨A', Stp.refl, st', .int _⟩⟩, fun _ => Nat.le_refl _⟩
theorem li_rng1 {m : ME} {R : It → Hp → Prop} (h : LI k W (mRng1 m) σ H R) : iRng1 (tCons (LE k W m) tNil) σ H R := by
  obtain ⟨A, F, C, s, h⟩ := h
  refine ⟨A, F, C, s, (Aft.bnd (rel := RepD k) h).mono fun d C1 A1 H1 v p st r h1 => ?_⟩
  cases r with
  | int j =>
    simp only at h1
    split at h1
    · rename_i hb
      simp only [inR, Bool.and_eq_true, decide_eq_true_eq] at hb
      exact ⟨j, rfl, hb.1, hb.2, h1 A1 H1 _ Stp.refl st itR_ok⟩
    · exact h1.elim
  | _ => exact h1.elim
theorem li_rng2 {m m2 : ME} {R : It → Hp → Prop} (h : LI k W (mRng2 m m2) σ H R) : iRng2 (tCons (LE k W m) (tCons (LE k W m2) tNil)) σ H R := by
  obtain ⟨A, F, C, s, h⟩ := h
  refine ⟨A, F, C, s, (Aft.bnd (rel := RepD k) h).mono fun d C1 A1 H1 v p st r h1 => ?_⟩
  have s1 := s.step p st
  refine ⟨A1, F, C1, s1, (Aft.bnd (rel := RepD k) h1).mono fun e C2 A2 H2 v2 p2 st2 r2 h2 => ?_⟩
  cases r with
  | int i =>
    cases r2 with
    | int j =>
      simp only at h2
      split at h2
      · rename_i hb
        simp only [inR, Bool.and_eq_true, decide_eq_true_eq] at hb
        exact ⟨i, j, rfl, ⟨hb.1.1, hb.1.2, hb.2.1, hb.2.2⟩, h2 A2 H2 _ Stp.refl st2 itR_ok⟩
      · exact h2.elim
    | _ => exact h2.elim
  | _ =>
    cases r2 <;> exact h2.elim
theorem di_rng1 {tg a : Expr} {p pos : Pos} {m : ME} (hg : Gl X "range") (hm : X.mg "range" = none) (ha : PE X a (LE k W m)) (hs : starEach [a] X.env = [(false, eval a X.env)] := by rfl) : PI X tg (.Call (.Name "range" p) [a] [] pos) (LI k W (mRng1 m)) :=
  (pi_range1 hg hm (pa_cons ha pa_nil hs) hs).cq fun _ _ _ h => li_rng1 h
theorem di_rng2 {tg a b : Expr} {p pos : Pos} {m m2 : ME} (hg : Gl X "range") (hm : X.mg "range" = none) (ha : PE X a (LE k W m)) (hb : PE X b (LE k W m2)) (hs : starEach [a, b] X.env = [(false, eval a X.env), (false, eval b X.env)] := by rfl) (hs2 : starEach [b] X.env = [(false, eval b X.env)] := by rfl) :
    PI X tg (.Call (.Name "range" p) [a, b] [] pos) (LI k W (mRng2 m m2)) :=
  (pi_range2 hg hm (pa_cons ha (pa_cons hb pa_nil hs2) (by rw [hs, hs2])) hs hs2).cq fun _ _ _ h => li_rng2 h
end
/-! ### defs -/
def mDef (np ns : Nat) (body : MS) : MF := fun ds C => if ds.length = np then (match body ⟨C.length, ds.map some ++ List.replicate (ns - np) none⟩ C with
    | .nx _ C' => fin C.length .non C'
    | .rt d C' => fin C.length d C'
    | .xc e _ C' => if cbL C.length e.fs = true then .exc e (C'.take C.length) else .stuck
    | _ => .stuck) else .stuck
/-- the promise of a def that computes m -/
def SpD (k : Cn) (np : Nat) (m : MF) : Sp := fun vs H Q E => vs.length = np ∧ ∃ A C ds, StOk k A C H ∧ RepL k A C H vs ds ∧ Aft k C.length A C H (RepD k) (m ds C) (fun _ _ _ H' v => Q v H') E
section
variable {k : Cn}
theorem cut_stp {n : Nat} {A A' : Nat → Addr} {C C' : Store} {H H' : Hp} (hn : n = C.length) (st0 : StOk k A C H) (st : StOk k A' C' H') (s : Stp k n A C H A' C' H') :
    Stp k n A C H A' (C'.take n) H' ∧ StOk k A' (C'.take n) H' ∧ n ≤ C'.length ∧ (C'.take n).length = n := by
  have hl : n ≤ C'.length := by rw [hn]; exact s.len
  have tl : (C'.take n).length = n := by rw [List.length_take]; omega
  have low : LowC n C' := s.low n (Nat.le_refl _) (by omega) (by rw [hn]; exact st0.low)
  exact ⟨⟨fun v d r => (s.rep v d r).cut hl (by rw [hn]; exact r.cb), by rw [tl, hn]; exact Nat.le_refl _, fun f h1 h2 l => low_take (s.low f h1 h2 l), s.frz⟩, st.take hl low, hl, tl⟩
theorem fz_rep {n : Nat} {A : Nat → Addr} {C : Store} {H : Hp} {v : V} {d : D} (st : StOk k A C H) (hl : n ≤ C.length) (r : Rep k A C H v d) (h : cb n (fz n d C) = true) : Rep k A (C.take n) H v (fz n d C) := by
  have tl : (C.take n).length = n := by rw [List.length_take]; omega
  have nl : ∀ i c, ¬ i < n → C[i]? = some (some c) → ¬ Live A (C.take n) (A i) := fun i c hi e l => by
    obtain ⟨j, c', e', z⟩ := l
    by_cases hj : j < n
    · rw [List.getElem?_take_of_lt hj] at e'
      have := st.inj j i _ _ e' e z
      omega
    · rw [List.getElem?_eq_none (by rw [tl]; omega)] at e'
      cases e'
  cases d with
  | cell i =>
    by_cases hi : i < n
    · have e : fz n (.cell i) C = .cell i := by simp [fz, hi]
      rw [e] at h ⊢
      exact r.cut hl h
    · cases r with
      | cell hi' =>
        simp only [fz, if_neg hi] at h ⊢
        split
        · rename_i xs ec
          rw [ec] at h
          obtain ⟨vs, hv, rv⟩ := st.at_ i _ ec
          exact .lst (nl i _ hi ec) hv (rv.cut hl (by simpa [cb] using h))
        · rename_i ks xs ec
          rw [ec] at h
          obtain ⟨kvs, hv, hk, rv⟩ := st.at_ i _ ec
          subst hk
          exact .dT (nl i _ hi ec) (.inl hv) (rv.cut hl (by simpa [cb] using h))
        · rename_i n1 n2
          exfalso
          split at h
          · rename_i ec; exact n1 _ ec
          · rename_i ec; exact n2 _ _ ec
          · simp only [cb, decide_eq_true_eq] at h
            exact hi h
  | _ => exact r.cut hl h
/-- from a body to the promise -/
theorem spD_body {np ns : Nat} {body : MS} {N : List Str} {vs : List V} {H : Hp} {Q : VK} {E : XK} (hN : N.length = ns) (hp : np ≤ ns) (h : SpD k np (mDef np ns body) vs H Q E) :
    LS k (fun c d _ H' => E c d H') body { nx := fun _ H' => Q .non H', rt := Q } (L2.start N vs) H := by
  obtain ⟨hv, A, C, ds, st, rl, h⟩ := h
  have hd : ds.length = np := by rw [← rl.length]; exact hv
  unfold mDef at h
  rw [if_pos hd] at h
  have sl : (L2.start N vs) = vs.map some ++ List.replicate (ns - np) none := by unfold L2.start; rw [hN, hv]
  have sr : SR k A ⟨C.length, ds.map some ++ List.replicate (ns - np) none⟩ C (L2.start N vs) H := by
    refine ⟨st, st.low, Nat.le_refl _, ?_, fun i d e => ?_⟩
    · rw [sl]
      simp [rl.length]
    · rw [sl]
      have e' : (ds.map some ++ List.replicate (ns - np) none)[i]? = some (some d) := e
      by_cases hi : i < ds.length
      · rw [List.getElem?_append_left (by simpa using hi), List.getElem?_map] at e'
        cases ed : ds[i]? with
        | none => rw [ed] at e'; cases e'
        | some d' =>
          rw [ed] at e'
          cases e'
          obtain ⟨v, h1, h2⟩ := rl.get ed
          refine ⟨v, ?_, h2⟩
          rw [List.getElem?_append_left (by rw [List.length_map, rl.length]; exact hi), List.getElem?_map, h1]
          rfl
      · rw [List.getElem?_append_right (by simpa using hi)] at e'
        have := List.getElem?_eq_some_iff.mp e'
        obtain ⟨h1, h2⟩ := this
        rw [List.getElem_replicate] at h2
        cases h2
  refine ⟨A, _, C, sr, ?_⟩
  have done : ∀ (d : D) (C' : Store), Aft k C.length A C H (RepD k) (fin C.length d C') (fun _ _ _ H' v => Q v H') E → ∀ A' H' v, Stp k C.length A C H A' C' H' → StOk k A' C' H' → Rep k A' C' H' v d → Q v H' := fun d C' hf A' H' v p st' r => by
    unfold fin at hf
    split at hf
    · rename_i hc
      obtain ⟨q1, q2, q3, q4⟩ := cut_stp rfl st st' p
      exact hf A' H' v q1 q2 (fz_rep st' q3 r hc)
    · exact hf.elim
  show AftS k _ C.length A C H (body ⟨C.length, ds.map some ++ List.replicate (ns - np) none⟩ C) _
  cases eb : body ⟨C.length, ds.map some ++ List.replicate (ns - np) none⟩ C with
  | nx sl' C' =>
    rw [eb] at h
    exact fun A' σ' H' p s' => done .non C' h A' H' .non p s'.st .non
  | rt d C' =>
    rw [eb] at h
    exact fun A' H' v p st' r => done d C' h A' H' v p st' r
  | bk sl' C' => rw [eb] at h; exact h.elim
  | ct sl' C' => rw [eb] at h; exact h.elim
  | stuck => rw [eb] at h; exact h.elim
  | xc e sl' C' =>
    rw [eb] at h
    intro A' σ' H' dd ws p s' x l r
    simp only at h
    split at h
    · rename_i hc
      obtain ⟨q1, q2, q3, q4⟩ := cut_stp rfl st s'.st p
      exact h A' H' dd ws q1 q2 x l (r.cut q3 hc)
    · exact h.elim
end
end CT
set_option maxHeartbeats 4000000
/-! DL8: defs, calls, instances over data. -/
namespace CT
open PySem L2 PySem.Spec PyProof.Rows
theorem Aft.more {k : Cn} {fl n : Nat} {A : Nat → Addr} {C : Store} {H : Hp} {α β : Type} {rel : (Nat → Addr) → Store → Hp → β → α → Prop} {m : R α} {Q : α → Store → (Nat → Addr) → Hp → β → Prop} {W : XK} (hn : fl ≤ n) (h : Aft k fl A C H rel m Q W) : Aft k n A C H rel m Q W := by
  cases m with
  | ok d C' => exact fun A' H' v p st r => h A' H' v (p.less hn) st r
  | exc e C' => exact fun A' H' dd vs p st x l r => h A' H' dd vs (p.less hn) st x l r
  | stuck => exact h
/-- a def of np parameters -/
def Ar (np : Nat) (m : MF) : Prop := ∀ ds C, ds.length ≠ np → m ds C = .stuck
theorem mDef_ar {np ns : Nat} {body : MS} : Ar np (mDef np ns body) := fun ds C h => by
  unfold mDef
  rw [if_neg h]
/-! ### defs that know that no repr runs around them -/
theorem RoomG.mono {i j : Nat} {A : Around} (r : RoomG j A) (h : i ≤ j) : RoomG i A := ⟨r.room.mono h, r.gd⟩
theorem RoomG.in1 {j : Nat} {A : Around} (r : RoomG (j + 1) A) : RoomG j A.in1 := ⟨r.room.in1, r.gd⟩
theorem RoomG.make {j : Nat} {A : Around} (r : RoomG (j + 1) A) (C : Addr) (us : List Value) (kw : List (Str × Value)) : RoomG j (A.under (.builtin "type.__call__" ⟨.ref C :: us, kw⟩)) :=
  ⟨r.room.make C us kw, by
    have e : (A.under (.builtin "type.__call__" ⟨.ref C :: us, kw⟩)).guards = A.guards := by
      first
        | rfl
        | simp [Around.under, Code.guards, Code.isGuard, pushGuards, guardIds]
    rw [e]
    exact r.gd⟩
structure FnG (P : Program) (w : World) (K : PySem.W.Frag) (mg : Str → Option Value) (base : Heap) (lev : Nat) (f : Addr) (fd : FuncData) (ps : List Str) (sp : Sp) : Prop where
  len : ∀ vs H Q E, sp vs H Q E → vs.length = ps.length
  run : ∀ (A : Around) (outer : List Env) (s : Shared) (H : Hp) (args : Args) (us : List Value) (vs : List V) (Q : VK) (E : XK), RoomG lev A → Env0 P w K mg base A outer s H → BindsTo s fd args (ps.zip us) → Vals vs us → sp vs H Q E →
    codeAny (model P w) A (.call (.ref f) args) (CR (L2N.CX P w) outer P w H s Q E) s
theorem FnG.mono {P : Program} {w : World} {K : PySem.W.Frag} {mg : Str → Option Value} {base : Heap} {i j : Nat} {f : Addr} {fd : FuncData} {ps : List Str} {sp : Sp} (F : FnG P w K mg base i f fd ps sp) (h : i ≤ j) : FnG P w K mg base j f fd ps sp :=
  ⟨F.len, fun A outer s H args us vs Q E hr => F.run A outer s H args us vs Q E (hr.mono h)⟩
theorem fn_ofG {P : Program} {w : World} {K : PySem.W.Frag} {mg : Str → Option Value} {base : Heap} {lev : Nat} {f : Addr} {name qual : Str} {params : Arguments} {body : List Stmt} {scope : Scope} {dV kV doc pm cdv ct oc : Value} {an od : Option Addr}
    {osl : Array (Option Value)} {N ps : List Str} {sp : Sp} (lk : K.lookup f = some ⟨oc, od, .func (PySem.W.fnOf name qual params body scope dV kV doc pm an cdv ct), osl⟩) (hcd : PySem.W.codeIn K cdv qual = true) (S : FnScope N ps scope)
    (len : ∀ vs H Q E, sp vs H Q E → vs.length = ps.length)
    (hbody : ∀ (A : Around) (outer : List Env) (s : Shared) (H : Hp) (vs : List V) (Q : VK) (E : XK), RoomG lev (A.deeper (envOfC qual scope s.heap.objs.size f cdv)) → sp vs H Q E →
      ∃ t, PSs (cxOf (L2N.CX P w) P w K mg base N qual scope f cdv A outer s H E) body t ∧ t { nx := fun _ H' => Q .non H', rt := Q } (L2.start N vs) H) :
    FnG P w K mg base (lev + 1) f (PySem.W.fnOf name qual params body scope dV kV doc pm an cdv ct) ps sp := by
  refine ⟨len, fun A outer s H args us vs Q E hr e0 hb r hsp => ?_⟩
  have hl := len _ _ _ _ hsp
  have KX : K.In s.heap := e0.mod.kin.keeps fun b o e => (e0.bs b o e).1
  have lim : s.heap.NoLimit := e0.mod.nolimit.keeps fun b o e => (e0.bs b o e).1
  have hkind : ∀ y ∈ ps.zip us, scope.names.lookup y.1 = some .local ∨ (scope.names.lookup y.1 = some .cell ∧ ((cellsFrom (s.heap.objs.size + 1) scope.names []).lookup y.1).isSome = true) := fun ⟨n, v⟩ hy => by
    rcases S.par n (List.of_mem_zip hy).1 with q | q
    · exact .inl q
    · exact .inr ⟨q, PySem.W.cellsFrom_some _ _ _ (.inl q)⟩
  refine codeAny_call_function hr.room.depth (KX _ _ lk) rfl S.co S.gen rfl (PySem.W.codeRec_of KX hcd) (hb _ _ _ _ ?_)
  refine wpAny_newFunctionEnv_cells S.kind hkind fun env he s1 x => ?_
  subst he
  refine ⟨lim.keeps x.toInCall.keep, codeAny_func ?_⟩
  obtain ⟨t, ht, hq⟩ := hbody A outer s H vs Q E ⟨hr.room.deeper _, hr.gd⟩ hsp
  have I : Inv (cxOf (L2N.CX P w) P w K mg base N qual scope f cdv A outer s H E) [] (L2.start N vs) H s1 := inv_start S hr.room.hd e0 hl r x
  refine wpAny_mono (ht.run [] s1 (L2.start N vs) H _ I hq) (fun fl s' hs => ?_) fun e s' hs => hs
  have fin : ∀ {σ' : L2.St} {H' : Hp} {v : V} {u : Value}, Inv (cxOf (L2N.CX P w) P w K mg base N qual scope f cdv A outer s H E) [] σ' H' s' → RelV v u → Q v H' → CE outer P w H s Q u s' :=
    fun {σ' H' v u} J rv q => ⟨v, H', J.os, J.bare, J.base, J.hok, rv, q⟩
  cases fl with
  | ret u =>
    obtain ⟨v, σ', H', J, rv, q⟩ := hs
    exact fin J rv q
  | next =>
    obtain ⟨σ', H', J, q⟩ := hs
    exact fin (v := V.non) (u := Value.none) J rfl q
  | brk =>
    obtain ⟨_, _, _, q⟩ := hs
    exact False.elim q
  | cont =>
    obtain ⟨_, _, _, q⟩ := hs
    exact False.elim q
section
variable {P : Program} {w : World} {k : Cn} {mg : Str → Option Value} {base : Heap} {x qual : Str} {params : Arguments} {body : List Stmt} {scope : Scope} {dvs : List V} {kws : List (Str × V)} {f : Addr} {fd : FuncData}
/-- THE RULE for a def: its body's derivation -/
theorem fn_ok {N ps : List Str} {lev : Nat} {m : MS} (F : FunD k.K x qual params body scope dvs kws f fd) (S : FnScope N ps scope) (hp : ps.length ≤ N.length)
    (hb : ∀ (cdv : Value) (A : Around) (outer : List Env) (s : Shared) (H : Hp) (E : XK), RoomG lev (A.deeper (envOfC qual scope s.heap.objs.size f cdv)) → PSs (cxOf (L2N.CX P w) P w k.K mg base N qual scope f cdv A outer s H E) body (LS k (fun c d _ H' => E c d H') m)) :
    FnG P w k.K mg base (lev + 1) f fd ps (SpD k ps.length (mDef ps.length N.length m)) := by
  obtain ⟨oc, od, dV, kV, doc, pm, an, cdv, ct, osl, rfl, lk, hcd, _, _⟩ := F.ex
  exact fn_ofG lk hcd S (fun vs H Q E h => h.1) fun A outer s H vs Q E hr h => ⟨_, hb cdv A outer s H E hr, spD_body rfl hp h⟩
end
/-! ### calls -/
section
variable {X : Cx} {k : Cn} {W : WX} {σ : L2.St} {H : Hp} {Q : VK} {lev : Nat} {f C p g : Addr} {fd : FuncData} {ps : List Str} {np : Nat} {m : MF} {dvs : List V} {dds : List D} {ds : List Value} {x nm : Str} {pn pos apos : Pos} {e o : Expr} {es : List Expr} {ma : MA} {mo : ME}
theorem sp_of {A : Nat → Addr} {C : Store} {fl : Nat} {vs : List V} {xs : List D} {E : XK} (hf : fl ≤ C.length) (ar : Ar np m) (st : StOk k A C H) (r : RepL k A C H vs xs) (h : Aft k fl A C H (RepD k) (m xs C) (fun _ _ _ H' v => Q v H') E) : SpD k np m vs H Q E := by
  refine ⟨?_, A, C, xs, st, r, h.more hf⟩
  rw [r.length]
  by_cases hl : xs.length = np
  · exact hl
  · rw [ar xs C hl] at h
    exact h.elim
theorem run_fnG {sp : Sp} {E : L2.St → XK} {pins : List (Addr × Obj)} {σ : L2.St} {H : Hp} {s : Shared} {Q : VK} {us : List Value} {vs : List V} (F : FnG X.prog X.w X.K X.mg X.base lev f fd ps sp) (hr : RoomG lev X.A) (hb : Binds X.K fd ps ds) (hd : Vals dvs ds) (hx : PassesAt (L2N.CX X.prog X.w) X σ (E σ))
    (I : Inv X pins σ H s) (r : Vals vs us) (h : sp (vs ++ dvs) H Q (E σ)) : wpAny (model X.prog X.w) X.A (call (.ref f) us) (EP X pins σ Q) X.xe s := by
  have r2 : Vals (vs ++ dvs) (us ++ ds) := r.append hd
  have hl : (us ++ ds).length = ps.length := by rw [← r2.length]; exact F.len _ _ _ _ h
  refine wpAny_call (codeAny_mono (F.run X.A X.stack s H ⟨us, []⟩ (us ++ ds) (vs ++ dvs) Q (E σ) hr I.env0 (hb s us I.kIn hl) r2 h) fun r s' hq => ?_)
  cases r with
  | error e => exact hx pins H s e s' I hq
  | ok fl =>
    cases fl with
    | ret u => exact I.after hq
    | next => exact False.elim hq
    | brk => exact False.elim hq
    | cont => exact False.elim hq
theorem pe_callG {sp : Sp} {E : L2.St → XK} {t : TA} (F : FnG X.prog X.w X.K X.mg X.base lev f fd ps sp) (hr : RoomG lev X.A) (hg : Gl X x) (hm : X.mg x = some (.ref f)) (hk : PySem.W.keepIn X.K (.ref f) = true) (hb : Binds X.K fd ps ds) (hd : Vals dvs ds) (hx : ∀ σ, PassesAt (L2N.CX X.prog X.w) X σ (E σ))
    (ha : PA X (e :: es) t) (hdb : (x == ("__debug__" : Str)) = false := by decide) (he : starEach (e :: es) X.env = (false, eval e X.env) :: starEach es X.env := by rfl) (hpl : (backTo pos (starEach es X.env)).any (·.1) = false := by rfl) :
    PE X (.Call (.Name x pn) (e :: es) [] pos) (tCallSD sp dvs E t) := by
  refine ⟨fun pins s σ H Q I h => ?_⟩
  refine wpAny_Call_Name_kw (ld_glob I hg hm ?_ hdb)
  refine PySem.W.callWith_K (h₀ := X.base) I.ok.mod.kin hk (thn (ha.run pos pins s σ H _ I h) fun us s1 ⟨vs, H1, I1, r, q⟩ => ⟨I1.kIn, ?_⟩) he hpl
  exact run_fnG F hr hb hd (hx σ) I1 r q
theorem le_call (ar : Ar np m) (hd : ∀ A C H, RepL k A C H dvs dds) (h : LE k W (mCall m dds ma) σ H Q) : tCallSD (SpD k np m) dvs (WE W) (LA k W ma) σ H Q := by
  obtain ⟨A, F, C, s, h⟩ := h
  refine ⟨A, F, C, s, (Aft.bnd (rel := RepDs k) h).mono fun xs C1 A1 H1 vs p1 st1 r1 h1 => ?_⟩
  exact sp_of (s.step p1 st1).fl ar st1 (r1.append (hd _ _ _)) h1
/-- f(e, ..) -/
theorem de_call (tk : Takes X W) (F : FnG X.prog X.w X.K X.mg X.base lev f fd ps (SpD k np m)) (ar : Ar np m) (hr : RoomG lev X.A) (hg : Gl X x) (hm : X.mg x = some (.ref f)) (hk : PySem.W.keepIn X.K (.ref f) = true) (hb : Binds X.K fd ps ds) (hd : Vals dvs ds) (hdd : ∀ A C H, RepL k A C H dvs dds)
    (ha : PA X (e :: es) (LA k W ma)) (hdb : (x == ("__debug__" : Str)) = false := by decide) (he : starEach (e :: es) X.env = (false, eval e X.env) :: starEach es X.env := by rfl) (hpl : (backTo pos (starEach es X.env)).any (·.1) = false := by rfl) :
    PE X (.Call (.Name x pn) (e :: es) [] pos) (LE k W (mCall m dds ma)) := (pe_callG F hr hg hm hk hb hd (fun σ => passAt tk σ) ha hdb he hpl).cq fun _ _ _ h => le_call ar hdd h
/-! ### instances -/
theorem vO_at {A : Nat → Addr} {C : Store} {v : V} {d : D} {c : Nat} {fs : List D} (st : StOk k A C H) (r : Rep k A C H v d) (e : vO d C = some (c, fs)) : ∃ a dx vs, v = .ref a ∧ H a = some (.ins (k.cl c) dx (((k.fn c).take fs.length).zip vs)) ∧ fs.length ≤ (k.fn c).length ∧ RepL k A C H vs fs := by
  cases r with
  | @obj a0 dx0 c0 vs0 ds0 l h z rv =>
    cases e
    have hl : fs.length = (k.fn c).length := by rw [← rv.length]; exact z
    refine ⟨a0, dx0, vs0, rfl, ?_, Nat.le_of_eq hl, rv⟩
    rw [hl, List.take_length]
    exact h
  | cell hi =>
    rename_i i
    simp only [vO] at e
    split at e
    · rename_i c' fs' ec
      cases e
      obtain ⟨dx, vs, h, z, rv⟩ := st.at_ i _ ec
      exact ⟨_, dx, vs, rfl, h, z, rv⟩
    · cases e
  | _ => cases e
theorem zip_look {names : List Str} {vs : List V} {n : Nat} {f : Str} {v : V} (nd : names.Nodup) (hn : names[n]? = some f) (hv : vs[n]? = some v) : (names.zip vs).lookup f = some v := by
  induction names generalizing vs n with
  | nil => simp at hn
  | cons a r ih =>
    cases vs with
    | nil => simp at hv
    | cons b t =>
      cases n with
      | zero =>
        simp at hn hv
        subst hn
        subst hv
        simp [List.lookup]
      | succ n =>
        simp at hn hv
        have ne : (f == a) = false := by
          simp only [List.nodup_cons] at nd
          have : f ≠ a := fun e => nd.1 (by rw [← e]; exact List.mem_of_getElem? hn)
          simpa using this
        rw [List.zip_cons_cons, List.lookup_cons, ne]
        exact ih (by simp only [List.nodup_cons] at nd; exact nd.2) hn hv
theorem zip_none {names : List Str} {vs : List V} {f : Str} (h : f ∉ names) : (names.zip vs).lookup f = none := by
  induction names generalizing vs with
  | nil => simp
  | cons a r ih =>
    cases vs with
    | nil => simp
    | cons b t =>
      simp only [List.mem_cons, not_or] at h
      have ne : (f == a) = false := by simpa using h.1
      rw [List.zip_cons_cons, List.lookup_cons, ne]
      exact ih h.2
theorem d_fld {c n : Nat} {f : Str} (hc : Cls k.K (k.cl c)) (hno : NoAttr k.K (k.cl c) f) (nd : (k.fn c).Nodup) (hf : (k.fn c)[n]? = some f) : ∀ fl A C H x dx d C' (Q : VK), fl ≤ C.length → LowC fl C → StOk k A C H → Rep k A C H x dx → oFld c n dx C = some (d, C') →
    (∀ A' H' v, Stp k fl A C H A' C' H' → StOk k A' C' H' → Rep k A' C' H' v d → Q v H') → ∃ a Cc dxx fs v, x = .ref a ∧ H a = some (.ins Cc dxx fs) ∧ Cls k.K Cc ∧ NoAttr k.K Cc f ∧ fs.lookup f = some v ∧ Q v H := by
  intro fl A C H x dx d C' Q hfl hl st r e q
  unfold oFld at e
  split at e
  · rename_i c' fs ev
    split at e
    · rename_i hcc
      subst hcc
      simp only [Option.map_eq_some_iff] at e
      obtain ⟨d', e1, e2⟩ := e
      cases e2
      obtain ⟨a, dx', vs, rfl, ha, hle, rv⟩ := vO_at st r ev
      obtain ⟨v, hv, rv1⟩ := rv.get e1
      have hn : n < fs.length := (List.getElem?_eq_some_iff.mp e1).1
      refine ⟨a, _, dx', _, v, rfl, ha, hc, hno, zip_look (nd.sublist (List.take_sublist _ _)) (by rw [List.getElem?_take_of_lt hn]; exact hf) hv, q A H v Stp.refl st rv1⟩
    · cases e
  · cases e
theorem le_fld {c n : Nat} {f : Str} (hc : Cls k.K (k.cl c)) (hno : NoAttr k.K (k.cl c) f) (nd : (k.fn c).Nodup) (hf : (k.fn c)[n]? = some f) (h : LE k W (mUn (oFld c n) mo) σ H Q) : tFld k.K (LE k W mo) f σ H Q := by
  obtain ⟨A, F, C, s, h⟩ := h
  refine ⟨A, F, C, s, (Aft.bnd (rel := RepD k) h).mono fun dx C1 A1 H1 v p1 st1 r1 h1 => ?_⟩
  obtain ⟨d, C', e, q⟩ := aft_ofO h1
  have s1 := s.step p1 st1
  exact d_fld hc hno nd hf F.fl A1 C1 H1 v dx d C' Q s1.fl s1.low st1 r1 e q
theorem de_fld (c n : Nat) {f : Str} (hK : X.K = k.K) (hc : Cls k.K (k.cl c)) (hno : NoAttr k.K (k.cl c) f) (nd : (k.fn c).Nodup) (hf : (k.fn c)[n]? = some f) (he : PE X o (LE k W mo)) (hb : attributeBase o f X.env (eval o X.env) = eval o X.env := by rfl) : PE X (.Attribute o f pos) (LE k W (mUn (oFld c n) mo)) :=
  (pe_fld he hb).cq fun _ _ _ h => by
    rw [hK]
    exact le_fld hc hno nd hf h
/-! ### methods, properties -/
def tMethS (Cc : Addr) (nm : Str) (sp : Sp) (dvs : List V) (E : L2.St → XK) (ta : TE) (t : TA) : TE := fun σ H Q => ta σ H fun x H1 => ∃ a dx fs, x = .ref a ∧ H1 a = some (.ins Cc dx fs) ∧ fs.lookup nm = none ∧
  t σ H1 fun vs H2 => sp (x :: (vs ++ dvs)) H2 Q (E σ)
theorem pe_methSD {pl : Sem Bool} {ta : TE} {t : TA} {sp : Sp} {E : L2.St → XK} (he : PE X o ta) (c : Cls X.K C) (hm : Meth X.K C nm f) (F : FnG X.prog X.w X.K X.mg X.base lev f fd ps sp) (hr : RoomG lev X.A) (hb : Binds X.K fd ps ds) (hd : Vals dvs ds) (hx : ∀ σ, PassesAt (L2N.CX X.prog X.w) X σ (E σ)) (ha : PA X (e :: es) t)
    (hst : starEach (e :: es) X.env = (false, eval e X.env) :: starEach es X.env := by rfl) (hpl : (backTo pos (starEach es X.env)).any (·.1) = false := by rfl)
    (ht : eval (.Call (.Attribute o nm apos) (e :: es) [] pos) X.env = (do
      let ov ← eval o X.env
      standAt apos.atName
      let (f, first) ← holding [ov] (getMethod ov nm pl)
      callWith pos f first (backTo pos (starEach (e :: es) X.env)) (backToKw pos (keywordEach [] X.env))) := by rfl) :
    PE X (.Call (.Attribute o nm apos) (e :: es) [] pos) (tMethS C nm sp dvs E ta t) := by
  refine ⟨fun pins s σ H Q I h => ?_⟩
  refine PySem.W.methodCall_KW (pl := pl) (thn (he.run pins s σ H _ I h) fun u s1 ⟨x, H1, I1, rx, a, dx, fs, ex, ea, l, q⟩ => ?_) ht
  subst ex
  obtain rfl : u = Value.ref a := rx
  refine getmeth_ok I1 ea c hm l ?_
  refine PySem.W.callWith_K (first := [.ref a]) (h₀ := X.base) I.ok.mod.kin hm.kp (thn (ha.run pos pins s1 σ H1 _ I1 q) fun us s2 ⟨vs, H2, I2, r, q2⟩ => ⟨I2.kIn, ?_⟩) hst hpl
  exact run_fnG (us := .ref a :: us) (vs := .ref a :: vs) F hr hb hd (hx σ) I2 (.cons rfl r) q2
theorem le_meth {c : Nat} (ar : Ar np m) (hno : nm ∉ k.fn c) (hdd : ∀ A C H, RepL k A C H dvs dds) (h : LE k W (mMeth c m dds mo ma) σ H Q) : tMethS (k.cl c) nm (SpD k np m) dvs (WE W) (LE k W mo) (LA k W ma) σ H Q := by
  obtain ⟨A, F, C, s, h⟩ := h
  refine ⟨A, F, C, s, (Aft.bnd (rel := RepD k) h).mono fun dx C1 A1 H1 v p1 st1 r1 h1 => ?_⟩
  have s1 := s.step p1 st1
  split at h1
  · rename_i c' fs ev
    split at h1
    · rename_i hcc
      subst hcc
      obtain ⟨a, dx', vs, rfl, ha, hle, rv⟩ := vO_at st1 r1 ev
      refine ⟨a, dx', _, rfl, ha, zip_none (fun z => hno (List.mem_of_mem_take z)), A1, F, C1, s1, (Aft.bnd (rel := RepDs k) h1).mono fun xs C2 A2 H2 ws p2 st2 r2 h2 => ?_⟩
      exact sp_of (s1.step p2 st2).fl ar st2 (.cons (p2.rep _ _ r1) (r2.append (hdd _ _ _))) h2
    · exact h1.elim
  · exact h1.elim
theorem de_meth {pl : Sem Bool} (c : Nat) (tk : Takes X W) (hK : X.K = k.K) (he : PE X o (LE k W mo)) (hc : Cls k.K (k.cl c)) (hm : Meth k.K (k.cl c) nm f) (F : FnG X.prog X.w X.K X.mg X.base lev f fd ps (SpD k np m)) (ar : Ar np m) (hno : nm ∉ k.fn c) (hr : RoomG lev X.A) (hb : Binds X.K fd ps ds) (hd : Vals dvs ds) (hdd : ∀ A C H, RepL k A C H dvs dds)
    (ha : PA X (e :: es) (LA k W ma)) (hst : starEach (e :: es) X.env = (false, eval e X.env) :: starEach es X.env := by rfl) (hpl : (backTo pos (starEach es X.env)).any (·.1) = false := by rfl)
    (ht : eval (.Call (.Attribute o nm apos) (e :: es) [] pos) X.env = (do
      let ov ← eval o X.env
      standAt apos.atName
      let (f, first) ← holding [ov] (getMethod ov nm pl)
      callWith pos f first (backTo pos (starEach (e :: es) X.env)) (backToKw pos (keywordEach [] X.env))) := by rfl) :
    PE X (.Call (.Attribute o nm apos) (e :: es) [] pos) (LE k W (mMeth c m dds mo ma)) :=
  (pe_methSD (pl := pl) he (by rw [hK]; exact hc) (by rw [hK]; exact hm) F hr hb hd (fun σ => passAt tk σ) ha hst hpl ht).cq fun _ _ _ h => le_meth ar hno hdd h
end
end CT
set_option maxHeartbeats 4000000
/-! DL9: built-in functions over data. -/
namespace CT
open PySem L2 PySem.Spec PyProof.Rows
/-! ### data as the library's own -/
section
variable {k : Cn} {A : Nat → Addr} {C : Store} {H : Hp}
mutual
theorem toP0_dp : ∀ {v : V} {d : D} {p : PyData}, Rep k A C H v d → toP0 d = some p → Dp k.K H v p
  | _, _, _, .non, e => by simp only [toP0] at e; cases e; exact .non
  | _, _, _, .bl b, e => by simp only [toP0] at e; cases e; exact .bl b
  | _, _, _, .int i, e => by simp only [toP0] at e; cases e; exact .int i
  | _, _, _, .str s, e => by simp only [toP0] at e; cases e; exact .str s
  | _, _, _, .lst l h r, e => by
    simp only [toP0, Option.map_eq_some_iff] at e
    obtain ⟨ps, e1, rfl⟩ := e
    exact .lst (.inl (.inl h)) (toP0s_dp r e1)
  | _, _, _, .tup l h r, e => by
    simp only [toP0, Option.map_eq_some_iff] at e
    obtain ⟨ps, e1, rfl⟩ := e
    exact .tup (.inl (.inl h)) (toP0s_dp r e1)
  | _, _, _, .ktup h r, e => by
    simp only [toP0, Option.map_eq_some_iff] at e
    obtain ⟨ps, e1, rfl⟩ := e
    exact .tup (.inr h) (toP0s_dp r e1)
  | _, _, _, .scr l h r, e => by simp only [toP0] at e; cases e
  | _, _, _, .kscr h r, e => by simp only [toP0] at e; cases e
  | _, _, _, .obj l h z r, e => by simp only [toP0] at e; cases e
  | _, _, _, .exn x l h z r, e => by simp only [toP0] at e; cases e
  | _, _, _, .cls c, e => by simp only [toP0] at e; cases e
  | _, _, _, .dT l h r, e => by simp only [toP0] at e; cases e
  | _, _, _, .cell hi, e => by simp only [toP0] at e; cases e
theorem toP0s_dp : ∀ {vs : List V} {ds : List D} {ps : List PyData}, RepL k A C H vs ds → toP0s ds = some ps → DpAll k.K H vs ps
  | _, _, _, .nil, e => by simp only [toP0s] at e; cases e; exact .nil
  | _, _, _, .cons (d := d) (ds := ds) r t, e => by
    simp only [toP0s] at e
    cases e1 : toP0 d with
    | none => rw [e1] at e; cases e
    | some p =>
      cases e2 : toP0s ds with
      | none => rw [e1, e2] at e; cases e
      | some ps =>
        rw [e1, e2] at e
        cases e
        exact .cons (toP0_dp r e1) (toP0s_dp t e2)
end
mutual
theorem toP_dp (st : StOk k A C H) : ∀ {v : V} {d : D} {p : PyData}, Rep k A C H v d → toP C d = some p → Dp k.K H v p
  | _, _, _, .non, e => by simp only [toP] at e; cases e; exact .non
  | _, _, _, .bl b, e => by simp only [toP] at e; cases e; exact .bl b
  | _, _, _, .int i, e => by simp only [toP] at e; cases e; exact .int i
  | _, _, _, .str s, e => by simp only [toP] at e; cases e; exact .str s
  | _, _, _, .lst l h r, e => by
    simp only [toP, Option.map_eq_some_iff] at e
    obtain ⟨ps, e1, rfl⟩ := e
    exact .lst (.inl (.inl h)) (toPs_dp st r e1)
  | _, _, _, .tup l h r, e => by
    simp only [toP, Option.map_eq_some_iff] at e
    obtain ⟨ps, e1, rfl⟩ := e
    exact .tup (.inl (.inl h)) (toPs_dp st r e1)
  | _, _, _, .ktup h r, e => by
    simp only [toP, Option.map_eq_some_iff] at e
    obtain ⟨ps, e1, rfl⟩ := e
    exact .tup (.inr h) (toPs_dp st r e1)
  | _, _, _, .scr l h r, e => by simp only [toP] at e; cases e
  | _, _, _, .kscr h r, e => by simp only [toP] at e; cases e
  | _, _, _, .obj l h z r, e => by simp only [toP] at e; cases e
  | _, _, _, .exn x l h z r, e => by simp only [toP] at e; cases e
  | _, _, _, .cls c, e => by simp only [toP] at e; cases e
  | _, _, _, .dT l h r, e => by simp only [toP] at e; cases e
  | _, _, _, .cell (i := i) hi, e => by
    simp only [toP] at e
    split at e
    · rename_i xs ec
      simp only [Option.map_eq_some_iff] at e
      obtain ⟨ps, e1, rfl⟩ := e
      obtain ⟨vs, hv, rv⟩ := st.at_ i _ ec
      exact .lst (.inl (.inl hv)) (toP0s_dp rv e1)
    · cases e
theorem toPs_dp (st : StOk k A C H) : ∀ {vs : List V} {ds : List D} {ps : List PyData}, RepL k A C H vs ds → toPs C ds = some ps → DpAll k.K H vs ps
  | _, _, _, .nil, e => by simp only [toPs] at e; cases e; exact .nil
  | _, _, _, .cons (d := d) (ds := ds) r t, e => by
    simp only [toPs] at e
    cases e1 : toP C d with
    | none => rw [e1] at e; cases e
    | some p =>
      cases e2 : toPs C ds with
      | none => rw [e1, e2] at e; cases e
      | some ps =>
        rw [e1, e2] at e
        cases e
        exact .cons (toP_dp st r e1) (toPs_dp st t e2)
end
end
/-! ### == and != of data -/
theorem d_eqD {k : Cn} : OpD k (rEqD k.K) (oEqD false) := by
  intro fl A C H x y dx dy d C' Q hf hl st rx ry e q
  simp only [oEqD] at e
  split at e
  · rename_i p q' e1 e2
    split at e
    · rename_i hs
      simp only [Bool.and_eq_true] at hs
      cases e
      exact ⟨p, q', toP_dp st rx e1, toP_dp st ry e2, hs.1, hs.2, q A H _ Stp.refl st (.bl _)⟩
    · cases e
  · cases e
theorem d_neD {k : Cn} : OpD k (rNeD k.K) (oEqD true) := by
  intro fl A C H x y dx dy d C' Q hf hl st rx ry e q
  simp only [oEqD] at e
  split at e
  · rename_i p q' e1 e2
    split at e
    · rename_i hs
      simp only [Bool.and_eq_true] at hs
      cases e
      exact ⟨p, q', toP_dp st rx e1, toP_dp st ry e2, hs.1, hs.2, q A H _ Stp.refl st (.bl _)⟩
    · cases e
  · cases e
/-! ### repr -/
def rReprD (K : PySem.W.Frag) : List V → Hp → VK → Prop := fun xs H Q => ∃ v d, xs = [v] ∧ Dp K H v d ∧ d.showable = true ∧ d.hasDict = false ∧ d.depth ≤ 60 ∧ d.shown.length ≤ sizeLine ∧ Q (.str d.shown) H
theorem call_reprD {X : Cx} (hr : RoomG 0 X.A) : CallR X (.builtin "repr") (rReprD X.K) := by
  intro pins s σ H xs us Q I r h
  obtain ⟨v, d, rfl, hd, h1, h2, h3, h4, q⟩ := h
  obtain ⟨u, rfl, ru⟩ := Vals.one r
  have un : X.A.units + 200 < cLine := by have := hr.room.un; omega
  obtain ⟨as, rd⟩ := Dp.reads I d v u hd ru
  have fin : ∀ (t : Tok) (h' : Heap) (tk : Nat), (∀ b o, s.heap.get? b = some o → h'.get? b = some o) → EP X pins σ Q (.str d.shown t) { s with heap := h', toks := tk } := fun t h' tk hk => ⟨.str d.shown, H, I.kept (t' := tk) hk, ⟨_, rfl⟩, q⟩
  cases hd with
  | non =>
    cases ru
    exact PySem.P.repr_of_none (fin _ _ _ fun _ _ e => e)
  | bl b =>
    cases ru
    exact PySem.P.repr_of_bool (fin _ _ _ fun _ _ e => e)
  | int i =>
    obtain ⟨t, rfl⟩ := ru
    exact PySem.P.repr_of_int (by simpa [PyData.showable] using h1) (fin _ _ _ fun _ _ e => e)
  | str x =>
    obtain ⟨t, rfl⟩ := ru
    exact PySem.P.repr_of_str (fin _ _ _ fun _ _ e => e) h4
  | lst hs ha =>
    cases ru
    exact repr_of_reads' rd h1 (PyData.noDict_hsm h2) hr.gd (by omega) (fun _ _ e => e) (fun h' u tk hk => fin u h' tk hk) h4
  | tup hs ha =>
    cases ru
    exact repr_of_reads' rd h1 (PyData.noDict_hsm h2) hr.gd (by omega) (fun _ _ e => e) (fun h' u tk hk => fin u h' tk hk) h4
def oRepr : OA := fun xs C => match xs with
  | [d] => match toP C d with
    | some p => if repOk p = true then some (.str p.shown, C) else none
    | none => none
  | _ => none
theorem d_repr {k : Cn} : ApD k (rReprD k.K) oRepr := by
  intro fl A C H x dx d C' Q hf hl st rx e q
  unfold oRepr at e
  split at e
  · rename_i d0
    split at e
    · rename_i p ep
      split at e
      · rename_i ho
        cases e
        cases rx with
        | cons r t =>
          cases t
          simp only [repOk, Bool.and_eq_true, Bool.not_eq_true', decide_eq_true_eq] at ho
          exact ⟨_, p, rfl, toP_dp st r ep, ho.1.1.1, ho.1.1.2, ho.1.2, szN_le ho.2, q A H _ Stp.refl st (.str _)⟩
      · cases e
    · cases e
  · cases e
/-! ### len, sums, least, greatest, conversions -/
def oLen : OA := fun xs C => match xs with
  | [d] => (vS d C).map fun ys => (.int ys.length, C)
  | _ => none
theorem d_len {k : Cn} : ApD k (fun xs H Q => ∃ p ys, xs = [.ref p] ∧ (SqL k.K H p ys ∨ SqT k.K H p ys) ∧ Q (.int ys.length) H) oLen := by
  intro fl A C H x dx d C' Q hf hl st rx e q
  unfold oLen at e
  split at e
  · rename_i d0
    simp only [Option.map_eq_some_iff] at e
    obtain ⟨ys, e1, e2⟩ := e
    cases e2
    cases rx with
    | cons r t =>
      cases t
      obtain ⟨a, vs, rfl, hs, rv⟩ := vS_at st r e1
      exact ⟨a, vs, rfl, hs, q A H _ Stp.refl st (by rw [rv.length]; exact .int _)⟩
  · cases e
theorem dInts_eq : ∀ {ds : List D} {ns : List Int}, dInts ds = some ns → ds = ns.map D.int
  | [], _, e => by cases e; rfl
  | .int i :: r, _, e => by
    simp only [dInts, Option.map_eq_some_iff] at e
    obtain ⟨l, e1, rfl⟩ := e
    rw [dInts_eq e1]
    rfl
  | .non :: _, _, e => by cases e
  | .bl _ :: _, _, e => by cases e
  | .str _ :: _, _, e => by cases e
  | .lst _ :: _, _, e => by cases e
  | .tup _ :: _, _, e => by cases e
  | .scr _ :: _, _, e => by cases e
  | .kt _ :: _, _, e => by cases e
  | .obj _ _ :: _, _, e => by cases e
  | .exn _ _ :: _, _, e => by cases e
  | .cls _ :: _, _, e => by cases e
  | .dT _ _ :: _, _, e => by cases e
  | .cell _ :: _, _, e => by cases e
theorem dBools_eq : ∀ {ds : List D} {ns : List Bool}, dBools ds = some ns → ds = ns.map D.bl
  | [], _, e => by cases e; rfl
  | .bl i :: r, _, e => by
    simp only [dBools, Option.map_eq_some_iff] at e
    obtain ⟨l, e1, rfl⟩ := e
    rw [dBools_eq e1]
    rfl
  | .non :: _, _, e => by cases e
  | .int _ :: _, _, e => by cases e
  | .str _ :: _, _, e => by cases e
  | .lst _ :: _, _, e => by cases e
  | .tup _ :: _, _, e => by cases e
  | .scr _ :: _, _, e => by cases e
  | .kt _ :: _, _, e => by cases e
  | .obj _ _ :: _, _, e => by cases e
  | .exn _ _ :: _, _, e => by cases e
  | .cls _ :: _, _, e => by cases e
  | .dT _ _ :: _, _, e => by cases e
  | .cell _ :: _, _, e => by cases e
def oSum : OA := fun xs C => match xs with
  | [d] => (vL d C).bind fun ys => (dInts ys).map fun ns => (.int ns.sum, C)
  | _ => none
def oAny : OA := fun xs C => match xs with
  | [d] => (vL d C).bind fun ys => (dBools ys).map fun ns => (.bl (ns.any id), C)
  | _ => none
def oAll : OA := fun xs C => match xs with
  | [d] => (vL d C).bind fun ys => (dBools ys).map fun ns => (.bl (ns.all id), C)
  | _ => none
theorem d_sum {k : Cn} : ApD k (rSum k.K) oSum := by
  intro fl A C H x dx d C' Q hf hl st rx e q
  unfold oSum at e
  split at e
  · simp only [Option.bind_eq_some_iff, Option.map_eq_some_iff] at e
    obtain ⟨ys, e1, ns, e2, e3⟩ := e
    cases e3
    cases rx with
    | cons r t =>
      cases t
      obtain ⟨a, vs, rfl, ha, rv⟩ := vL_at st r e1
      rw [dInts_eq e2] at rv
      have := rv.ints_inv
      subst this
      exact ⟨a, ns, rfl, .inl (.inl ha), q A H _ Stp.refl st (.int _)⟩
  · cases e
theorem d_any {k : Cn} : ApD k (rAny k.K) oAny := by
  intro fl A C H x dx d C' Q hf hl st rx e q
  unfold oAny at e
  split at e
  · simp only [Option.bind_eq_some_iff, Option.map_eq_some_iff] at e
    obtain ⟨ys, e1, ns, e2, e3⟩ := e
    cases e3
    cases rx with
    | cons r t =>
      cases t
      obtain ⟨a, vs, rfl, ha, rv⟩ := vL_at st r e1
      rw [dBools_eq e2] at rv
      have := rv.bls_inv
      subst this
      exact ⟨a, ns, rfl, .inl (.inl ha), q A H _ Stp.refl st (.bl _)⟩
  · cases e
theorem d_all {k : Cn} : ApD k (rAll k.K) oAll := by
  intro fl A C H x dx d C' Q hf hl st rx e q
  unfold oAll at e
  split at e
  · simp only [Option.bind_eq_some_iff, Option.map_eq_some_iff] at e
    obtain ⟨ys, e1, ns, e2, e3⟩ := e
    cases e3
    cases rx with
    | cons r t =>
      cases t
      obtain ⟨a, vs, rfl, ha, rv⟩ := vL_at st r e1
      rw [dBools_eq e2] at rv
      have := rv.bls_inv
      subst this
      exact ⟨a, ns, rfl, .inl (.inl ha), q A H _ Stp.refl st (.bl _)⟩
  · cases e
theorem d_2I {k : Cn} (g : Int → Int → Int) : ApD k (fun xs H Q => ∃ i j, xs = [.int i, .int j] ∧ Q (.int (g i j)) H) (o2I g) := by
  intro fl A C H x dx d C' Q hf hl st rx e q
  unfold o2I at e
  split at e
  · rename_i i j
    cases e
    cases rx with
    | cons r t =>
      cases t with
      | cons r2 t2 =>
        cases t2
        cases r
        cases r2
        exact ⟨i, j, rfl, q A H _ Stp.refl st (.int _)⟩
  · cases e
theorem d_max2 {k : Cn} : ApD k (fun xs H Q => ∃ i j, xs = [.int i, .int j] ∧ Q (.int (if j > i then j else i)) H) oMax2 := d_2I _
theorem d_min2 {k : Cn} : ApD k (fun xs H Q => ∃ i j, xs = [.int i, .int j] ∧ Q (.int (if j < i then j else i)) H) oMin2 := d_2I _
theorem d_abs {k : Cn} : ApD k (fun xs H Q => ∃ i, xs = [.int i] ∧ Q (.int (if i < 0 then -i else i)) H) oAbs := by
  intro fl A C H x dx d C' Q hf hl st rx e q
  unfold oAbs at e
  split at e
  · rename_i i
    cases e
    cases rx with
    | cons r t =>
      cases t
      cases r
      exact ⟨i, rfl, q A H _ Stp.refl st (.int _)⟩
  · cases e
theorem d_int {k : Cn} : ApD k (fun xs H Q => (∃ i, xs = [.int i] ∧ Q (.int i) H) ∨ ∃ k, xs = [.bl k] ∧ Q (.int (if k then 1 else 0)) H) oInt := by
  intro fl A C H x dx d C' Q hf hl st rx e q
  unfold oInt at e
  split at e
  · rename_i i
    cases e
    cases rx with
    | cons r t =>
      cases t
      cases r
      exact .inl ⟨i, rfl, q A H _ Stp.refl st (.int _)⟩
  · rename_i i
    cases e
    cases rx with
    | cons r t =>
      cases t
      cases r
      exact .inr ⟨i, rfl, q A H _ Stp.refl st (.int _)⟩
  · cases e
theorem d_tupOf {k : Cn} : ApD k (fun xs H Q => ∃ p ys, xs = [.ref p] ∧ ((SqL k.K H p ys ∧ ∀ l, H l = none → Q (.ref l) (upd H l (.tup ys))) ∨ (SqT k.K H p ys ∧ Q (.ref p) H))) oTupOf := by
  intro fl A C H x dx d C' Q hf hl st rx e q
  unfold oTupOf at e
  split at e
  · cases e
    cases rx with
    | cons r t =>
      cases t
      obtain ⟨a, vs, rfl, hs, rv⟩ := vT_at r rfl
      exact ⟨a, vs, rfl, .inr ⟨hs, q A H _ Stp.refl st r⟩⟩
  · cases e
    cases rx with
    | cons r t =>
      cases t
      obtain ⟨a, vs, rfl, hs, rv⟩ := vT_at r rfl
      exact ⟨a, vs, rfl, .inr ⟨hs, q A H _ Stp.refl st r⟩⟩
  · simp only [Option.map_eq_some_iff] at e
    obtain ⟨ys, e1, e2⟩ := e
    cases e2
    cases rx with
    | cons r t =>
      cases t
      obtain ⟨a, vs, rfl, ha, rv⟩ := vL_at st r e1
      refine ⟨a, vs, rfl, .inl ⟨.inl (.inl ha), fun l hl => ?_⟩⟩
      obtain ⟨w1, w2, w3⟩ := fresh_T (fl := fl) st rv hl
      exact q A _ _ w1 w2 w3
  · cases e
/-- list(x) -/
def oListOf (own : Bool) : OA := fun xs C => match xs with
  | [d] => (vS d C).map fun ys => mkL own ys C
  | _ => none
theorem d_listOf {k : Cn} (own : Bool) : ApD k (fun xs H Q => ∃ p ys, xs = [.ref p] ∧ (SqL k.K H p ys ∨ SqT k.K H p ys) ∧ ∀ l, H l = none → Q (.ref l) (upd H l (.lst ys))) (oListOf own) := by
  intro fl A C H x dx d C' Q hf hl st rx e q
  unfold oListOf at e
  split at e
  · simp only [Option.map_eq_some_iff] at e
    obtain ⟨ys, e1, e2⟩ := e
    cases rx with
    | cons r t =>
      cases t
      obtain ⟨a, vs, rfl, hs, rv⟩ := vS_at st r e1
      refine ⟨a, vs, rfl, hs, fun l hl => ?_⟩
      obtain ⟨A2, w1, w2, w3⟩ := fresh_L (own := own) hf st rv hl
      rw [e2] at w1 w2 w3
      exact q A2 _ _ w1 w2 w3
  · cases e
/-! ### + and * of lists, + of tuples -/
def oCat (own : Bool) : O2 := fun x y C => match vL x C, vL y C with
  | some xs, some ys => if szN (xs.length + ys.length) = true then some (mkL own (xs ++ ys) C) else none
  | _, _ => none
theorem d_cat {k : Cn} (own : Bool) : OpD k rCat (oCat own) := by
  intro fl A C H x y dx dy d C' Q hf hl st rx ry e q
  unfold oCat at e
  split at e
  · rename_i xs ys e1 e2
    split at e
    · rename_i hz
      obtain ⟨a, vs, rfl, ha, rv⟩ := vL_at st rx e1
      obtain ⟨b, ws, rfl, hb, rw⟩ := vL_at st ry e2
      refine ⟨a, b, vs, ws, rfl, rfl, ha, hb, by rw [rv.length, rw.length]; exact szN_le hz, fun p hp => ?_⟩
      obtain ⟨A2, w1, w2, w3⟩ := fresh_L (own := own) hf st (rv.append rw) hp
      have e' := Option.some.inj e
      rw [e'] at w1 w2 w3
      exact q A2 _ _ w1 w2 w3
    · cases e
  · cases e
def oCatT : O2 := fun x y C => match vT x, vT y with
  | some xs, some ys => if szN (xs.length + ys.length) = true then (if xs.isEmpty = true then some (y, C) else if ys.isEmpty = true then some (x, C) else some (.tup (xs ++ ys), C)) else none
  | _, _ => none
theorem d_catT {k : Cn} : OpD k (rCatA k.K) oCatT := by
  intro fl A C H x y dx dy d C' Q hf hl st rx ry e q
  unfold oCatT at e
  split at e
  · rename_i xs ys e1 e2
    obtain ⟨a, vs, rfl, ha, rv⟩ := vT_at rx e1
    obtain ⟨b, ws, rfl, hb, rw⟩ := vT_at ry e2
    have z1 : vs = [] ↔ xs = [] := by
      have := rv.length
      constructor
      · intro h; subst h; exact List.length_eq_zero_iff.mp (by simpa using this.symm)
      · intro h; subst h; exact List.length_eq_zero_iff.mp (by simpa using this)
    have z2 : ws = [] ↔ ys = [] := by
      have := rw.length
      constructor
      · intro h; subst h; exact List.length_eq_zero_iff.mp (by simpa using this.symm)
      · intro h; subst h; exact List.length_eq_zero_iff.mp (by simpa using this)
    split at e
    · rename_i hz
      refine ⟨a, b, vs, ws, rfl, rfl, ha, hb, by rw [rv.length, rw.length]; exact szN_le hz, fun h => ?_, fun h h' => ?_, fun h h' p hp => ?_⟩
      · rw [if_pos (by simpa using z1.mp h)] at e
        cases e
        exact q A H _ Stp.refl st ry
      · have n1 : ¬ (xs.isEmpty = true) := by simpa using fun z => h (z1.mpr z)
        rw [if_neg n1, if_pos (by simpa using z2.mp h')] at e
        cases e
        exact q A H _ Stp.refl st rx
      · have n1 : ¬ (xs.isEmpty = true) := by simpa using fun z => h (z1.mpr z)
        have n2 : ¬ (ys.isEmpty = true) := by simpa using fun z => h' (z2.mpr z)
        rw [if_neg n1, if_neg n2] at e
        cases e
        obtain ⟨w1, w2, w3⟩ := fresh_T (fl := fl) st (rv.append rw) hp
        exact q A _ _ w1 w2 w3
    · cases e
  · cases e
/-! ### slices of lists -/
theorem cutD_rep {k : Cn} {A : Nat → Addr} {C : Store} {H : Hp} {vs : List V} {xs : List D} (r : RepL k A C H vs xs) (lo hi : Option Int) : RepL k A C H (cutV vs lo hi) (cutD xs lo hi) := by
  unfold cutV cutD
  rw [r.length]
  exact (r.drop _).take _
def LO (k : Cn) (W : WX) (m : Fr → Store → R (Option Int)) : TO := fun σ H Q => ∃ A F C, SR k A F C σ H ∧ Aft k F.fl A C H (fun _ _ _ (v d : Option Int) => v = d) (m F C) (fun _ _ _ H' v => Q v H') (fun c d H' => W c d σ H')
section
variable {X : Cx} {k : Cn} {W : WX} {σ : L2.St} {H : Hp} {Q : VK}
theorem _root_.L2.PO.cq {X : Cx} {e : Option Expr} {t t' : TO} (h : PO X e t) (c : ∀ σ H Q, t' σ H Q → t σ H Q) : PO X e t' := ⟨fun pins s σ H Q I q => h.run pins s σ H Q I (c σ H Q q)⟩
theorem do_none : PO X none (LO k W mNoPart) := po_none.cq fun σ H Q h => by
  obtain ⟨A, F, C, s, h⟩ := h
  exact h A H none Stp.refl s.st rfl
theorem do_some {e : Expr} {m : ME} (h : PE X e (LE k W m)) : PO X (some e) (LO k W (mPart m)) := (po_some h).cq fun σ H Q h => by
  obtain ⟨A, F, C, s, h⟩ := h
  refine ⟨A, F, C, s, (Aft.bnd (rel := RepD k) h).mono fun dx C1 A1 H1 x p1 st1 rx h1 => ?_⟩
  cases rx with
  | int i => exact ⟨i, rfl, h1 A1 H1 (some i) Stp.refl st1 rfl⟩
  | _ => exact h1.elim
theorem vLs_at {A : Nat → Addr} {C : Store} {v : V} {d : D} {ds : List D} (st : StOk k A C H) (r : Rep k A C H v d) (e : vLs d C = some ds) : ∃ a vs, v = .ref a ∧ SqL k.K H a vs ∧ RepL k A C H vs ds := by
  cases d with
  | scr xs =>
    cases r with
    | scr l h rv => cases e; exact ⟨_, _, rfl, .inl (.inr ⟨_, h⟩), rv⟩
    | kscr h rv => cases e; exact ⟨_, _, rfl, .inr h, rv⟩
  | lst xs => obtain ⟨a, vs, rfl, ha, rv⟩ := vL_at st r e; exact ⟨a, vs, rfl, .inl (.inl ha), rv⟩
  | cell i => obtain ⟨a, vs, rfl, ha, rv⟩ := vL_at st r e; exact ⟨a, vs, rfl, .inl (.inl ha), rv⟩
  | _ => cases e
theorem le_slL {own : Bool} {ma : ME} {l h' : Fr → Store → R (Option Int)} (h : LE k W (mSlL own ma l h') σ H Q) : tSl (rSlL k.K) (LE k W ma) (LO k W l) (LO k W h') σ H Q := by
  obtain ⟨A, F, C, s, h⟩ := h
  refine ⟨A, F, C, s, (Aft.bnd (rel := RepD k) h).mono fun dx C1 A1 H1 x p1 st1 rx h1 => ?_⟩
  have s1 := s.step p1 st1
  refine ⟨A1, F, C1, s1, (Aft.bnd (rel := fun _ _ _ (v d : Option Int) => v = d) h1).mono fun lo C2 A2 H2 lo' p2 st2 rl h2 => ?_⟩
  have rl : lo' = lo := rl
  subst rl
  have s2 := s1.step p2 st2
  refine ⟨A2, F, C2, s2, (Aft.bnd (rel := fun _ _ _ (v d : Option Int) => v = d) h2).mono fun hi C3 A3 H3 hi' p3 st3 rh h3 => ?_⟩
  have rh : hi' = hi := rh
  subst rh
  have s3 := s2.step p3 st3
  split at h3
  · rename_i xs ev
    obtain ⟨a, vs, rfl, ha, rv⟩ := vLs_at st3 (p3.rep _ _ (p2.rep _ _ rx)) ev
    refine ⟨a, vs, rfl, ha, fun p hp => ?_⟩
    obtain ⟨A4, w1, w2, w3⟩ := fresh_L (own := own) s3.fl st3 (cutD_rep rv lo' hi') hp
    exact h3 A4 _ _ w1 w2 w3
  · exact h3.elim
theorem de_slL (own : Bool) {e : Expr} {lo hi : Option Expr} {p2 pos : Pos} {ma : ME} {l h : Fr → Store → R (Option Int)} (hK : X.K = k.K) (he : PE X e (LE k W ma)) (hl : PO X lo (LO k W l)) (hu : PO X hi (LO k W h)) : PE X (.Subscript e (.Slice lo hi none p2) pos) (LE k W (mSlL own ma l h)) :=
  (pe_slice sl_list he hl hu).cq fun _ _ _ h => by
    rw [hK]
    exact le_slL h
end
end CT
set_option maxHeartbeats 4000000
/-! DLA: instances made, attributes stored, properties, isinstance. -/
namespace CT
open PySem L2 PySem.Spec PyProof.Rows
/-! ### C(..) -/
def mMake (own : Bool) (c nf : Nat) (m : MF) (dds : List D) (a : MA) : ME := fun F C => bnd (a F C) fun ds C1 => match m (.cell C1.length :: (ds ++ dds)) (C1 ++ [some (.ins c [])]) with
  | .ok .non C2 => if own = true then .ok (.cell C1.length) C2 else (match C2[C1.length]? with
    | some (some (.ins c' fs)) => if c' = c ∧ fs.length = nf ∧ cbL C1.length fs = true then .ok (.obj c fs) (C2.take C1.length) else .stuck
    | _ => .stuck)
  | .exc e C2 => if cbL C1.length e.fs = true then .exc e (C2.take C1.length) else .stuck
  | _ => .stuck
def tMakeS (Cc : Addr) (sp : Sp) (dvs : List V) (E : L2.St → XK) (t : TA) : TE := fun σ H Q => t σ H fun vs H1 => ∀ x dx, H1 x = none → H1 dx = none → dx ≠ x →
  sp (.ref x :: (vs ++ dvs)) (upd (upd H1 dx (.own x)) x (.ins Cc dx [])) (fun v H2 => v = .non ∧ Q (.ref x) H2) (E σ)
section
variable {X : Cx} {k : Cn} {W : WX} {σ : L2.St} {H : Hp} {Q : VK} {lev : Nat} {f C p g : Addr} {fd : FuncData} {ps : List Str} {np : Nat} {m : MF} {dvs : List V} {dds : List D} {ds : List Value} {x nm : Str} {pn pos apos : Pos} {e o : Expr} {es : List Expr} {ma : MA} {mo : ME}
theorem run_makeG {sp : Sp} {E : L2.St → XK} {pins : List (Addr × Obj)} {σ : L2.St} {H : Hp} {s : Shared} {Q : VK} {us : List Value} {vs : List V} (M : Mk X.K C f) (F : FnG X.prog X.w X.K X.mg X.base lev f fd ps sp) (hr : RoomG (lev + 1) X.A) (hb : Binds X.K fd ps ds) (hd : Vals dvs ds)
    (hx : ∀ σ, PassesAt (L2N.CX X.prog X.w) X σ (E σ)) (I : Inv X pins σ H s) (r : Vals vs us)
    (h : ∀ x dx, H x = none → H dx = none → dx ≠ x → sp (.ref x :: (vs ++ dvs)) (upd (upd H dx (.own x)) x (.ins C dx [])) (fun v H2 => v = .non ∧ Q (.ref x) H2) (E σ)) :
    wpAny (model X.prog X.w) X.A (call (.ref C) us) (EP X pins σ Q) X.xe s := by
  have hq := h (s.heap.objs.size + 1) s.heap.objs.size (I.hok.fresh (Nat.le_succ _)) (I.hok.fresh (Nat.le_refl _)) (Nat.ne_of_lt (Nat.lt_succ_self _))
  have I2 := Inv.made (C := C) I
  have r2 : Vals (V.ref (s.heap.objs.size + 1) :: (vs ++ dvs)) (Value.ref (s.heap.objs.size + 1) :: (us ++ ds)) := .cons rfl (r.append hd)
  have hl : (Value.ref (s.heap.objs.size + 1) :: us ++ ds).length = ps.length := by
    have e := r2.length
    rw [F.len _ _ _ _ hq] at e
    exact e.symm
  refine wpAny_call (make_map (f := f) I.kIn M.makes M.init (beq_iff_eq.mp M.fn) (codeAny_mono (F.run _ X.stack _ _ ⟨Value.ref (s.heap.objs.size + 1) :: us, []⟩ (Value.ref (s.heap.objs.size + 1) :: (us ++ ds)) _ _ (E σ) (hr.make C us [])
    (I2.env0.make C us []) (hb _ (Value.ref (s.heap.objs.size + 1) :: us) I2.kIn hl) r2 hq) fun r s' hq' => ?_))
  cases r with
  | error e => exact hx σ pins _ _ e s' I2 hq'
  | ok fl =>
    cases fl with
    | ret u =>
      obtain ⟨v, H', I3, rv, ev, q3⟩ := I2.after hq'
      subst ev
      exact ⟨rv, ⟨V.ref (s.heap.objs.size + 1), H', I3, rfl, q3⟩⟩
    | next => exact False.elim hq'
    | brk => exact False.elim hq'
    | cont => exact False.elim hq'
theorem pe_makeG {sp : Sp} {E : L2.St → XK} {t : TA} (M : Mk X.K C f) (F : FnG X.prog X.w X.K X.mg X.base lev f fd ps sp) (hr : RoomG (lev + 1) X.A) (hg : Gl X x) (hm : X.mg x = some (.ref C)) (hb : Binds X.K fd ps ds) (hd : Vals dvs ds) (hx : ∀ σ, PassesAt (L2N.CX X.prog X.w) X σ (E σ))
    (ha : PA X (e :: es) t) (hdb : (x == ("__debug__" : Str)) = false := by decide) (he : starEach (e :: es) X.env = (false, eval e X.env) :: starEach es X.env := by rfl) (hpl : (backTo pos (starEach es X.env)).any (·.1) = false := by rfl) :
    PE X (.Call (.Name x pn) (e :: es) [] pos) (tMakeS C sp dvs E t) := by
  refine ⟨fun pins s σ H Q I h => ?_⟩
  refine wpAny_Call_Name_kw (ld_glob I hg hm ?_ hdb)
  refine PySem.W.callWith_K (h₀ := X.base) I.ok.mod.kin M.kp (thn (ha.run pos pins s σ H _ I h) fun us s1 ⟨vs, H1, I1, r, q⟩ => ⟨I1.kIn, ?_⟩) he hpl
  exact run_makeG M F hr hb hd hx I1 r q
theorem le_make {own : Bool} {c nf : Nat} (ar : Ar np m) (hnf : (k.fn c).length = nf) (hdd : ∀ A C H, RepL k A C H dvs dds) (h : LE k W (mMake own c nf m dds ma) σ H Q) : tMakeS (k.cl c) (SpD k np m) dvs (WE W) (LA k W ma) σ H Q := by
  obtain ⟨A, F, C, s, h⟩ := h
  refine ⟨A, F, C, s, (Aft.bnd (rel := RepDs k) h).mono fun xs C1 A1 H1 vs p1 st1 r1 h1 => ?_⟩
  have s1 := s.step p1 st1
  intro x dx hx hdx hne
  have hx' : (upd H1 dx (.own x)) x = none := by rw [upd_ne (Ne.symm hne)]; exact hx
  have k1 : Kp A1 C1 H1 A1 C1 (upd H1 dx (.own x)) := kp_new hdx
  have st2 : StOk k A1 C1 (upd H1 dx (.own x)) := st1.new hdx
  have k2 : Kp A1 C1 (upd H1 dx (.own x)) (ext A1 C1.length x) (C1 ++ [some (.ins c [])]) (upd (upd H1 dx (.own x)) x (.ins (k.cl c) dx [])) := kp_cell (k := k) st2 hx'
  have st3 : StOk k (ext A1 C1.length x) (C1 ++ [some (.ins c [])]) (upd (upd H1 dx (.own x)) x (.ins (k.cl c) dx [])) := st2.cell hx' ⟨dx, [], upd_same, Nat.zero_le _, .nil⟩
  have pp : Stp k C1.length A1 C1 H1 (ext A1 C1.length x) (C1 ++ [some (.ins c [])]) (upd (upd H1 dx (.own x)) x (.ins (k.cl c) dx [])) := (k1.stp0).trans (k2.stp fun f h1 h2 l => low_app h2 l)
  have ppF := pp.less s1.fl
  have n1 : C1.length < (C1 ++ [some (Cell.ins c [])]).length := by simp
  have rs : RepL k (ext A1 C1.length x) (C1 ++ [some (.ins c [])]) (upd (upd H1 dx (.own x)) x (.ins (k.cl c) dx [])) (.ref x :: (vs ++ dvs)) (.cell C1.length :: (xs ++ dds)) := .cons (rep_new C1.length _) ((pp.reps r1).append (hdd _ _ _))
  have low0 : LowC C1.length (C1 ++ [some (Cell.ins c [])]) := low_app (Nat.le_refl _) st1.low
  refine sp_of (fl := C1.length) (Nat.le_of_lt n1) ar st3 rs ?_
  cases em : m (.cell C1.length :: (xs ++ dds)) (C1 ++ [some (.ins c [])]) with
  | ok d C2 =>
    rw [em] at h1
    intro A3 H3 v p3 st4 r3
    obtain ⟨ha3, hl3⟩ := cell_at p3 (ext_at A1 C1.length x) n1
    have p3n : Stp k C1.length A1 C1 H1 A3 C2 H3 := pp.trans p3
    have low3 : LowC C1.length C2 := p3.low _ (Nat.le_refl _) (Nat.le_of_lt n1) low0
    cases d with
    | non =>
      cases r3
      refine ⟨rfl, ?_⟩
      simp only at h1
      cases own with
      | true =>
        rw [if_pos rfl] at h1
        have r : Rep k A3 C2 H3 (.ref (A3 C1.length)) (.cell C1.length) := .cell hl3
        rw [ha3] at r
        exact h1 A3 H3 _ (p3n.less s1.fl) st4 r
      | false =>
        rw [if_neg (by decide)] at h1
        split at h1
        · rename_i c' fs ec
          split at h1
          · rename_i hc
            obtain ⟨rfl, hfs, hcb⟩ := hc
            obtain ⟨dx3, ws, hw, hle, rw3⟩ := st4.at_ _ _ ec
            have tl : (C2.take C1.length).length = C1.length := by rw [List.length_take]; omega
            have p4 : Stp k F.fl A1 C1 H1 A3 (C2.take C1.length) H3 := ⟨fun v d r => (p3n.rep v d r).cut (Nat.le_of_lt hl3) r.cb, by rw [tl]; exact Nat.le_refl _, fun f h1 h2 l => low_take ((p3n.less s1.fl).low f h1 h2 l), p3n.frz⟩
            refine h1 A3 H3 _ p4 (st4.take (Nat.le_of_lt hl3) low3) ?_
            rw [← ha3]
            refine .obj (fun l => ?_) (dx := dx3) (vs := ws) ?_ ?_ (rw3.cut (Nat.le_of_lt hl3) hcb)
            · obtain ⟨i, c, e, z⟩ := l
              by_cases hi : i < C1.length
              · rw [List.getElem?_take_of_lt hi] at e
                exact absurd (st4.inj i _ _ _ e ec z) (Nat.ne_of_lt hi)
              · rw [List.getElem?_eq_none (by rw [tl]; omega)] at e
                cases e
            · rw [hw, hfs, ← hnf, List.take_length]
            · rw [rw3.length, hfs, hnf]
          · exact h1.elim
        · exact h1.elim
    | _ => simp only at h1; exact h1.elim
  | exc e C2 =>
    rw [em] at h1
    simp only at h1
    intro A3 H3 dd ws p3 st4 hx3 hl3' r3
    obtain ⟨ha3, hl3⟩ := cell_at p3 (ext_at A1 C1.length x) n1
    have p3n : Stp k C1.length A1 C1 H1 A3 C2 H3 := pp.trans p3
    have low3 : LowC C1.length C2 := p3.low _ (Nat.le_refl _) (Nat.le_of_lt n1) low0
    split at h1
    · rename_i hcb
      have tl : (C2.take C1.length).length = C1.length := by rw [List.length_take]; omega
      have p4 : Stp k F.fl A1 C1 H1 A3 (C2.take C1.length) H3 := ⟨fun v d r => (p3n.rep v d r).cut (Nat.le_of_lt hl3) r.cb, by rw [tl]; exact Nat.le_refl _, fun f h1 h2 l => low_take ((p3n.less s1.fl).low f h1 h2 l), p3n.frz⟩
      exact h1 A3 H3 dd ws p4 (st4.take (Nat.le_of_lt hl3) low3) hx3 hl3' (r3.cut (Nat.le_of_lt hl3) hcb)
    · exact h1.elim
  | stuck =>
    rw [em] at h1
    exact h1.elim
theorem de_make (own : Bool) (c nf : Nat) (tk : Takes X W) (hK : X.K = k.K) (M : Mk k.K (k.cl c) f) (F : FnG X.prog X.w X.K X.mg X.base lev f fd ps (SpD k np m)) (ar : Ar np m) (hnf : (k.fn c).length = nf) (hr : RoomG (lev + 1) X.A) (hg : Gl X x) (hm : X.mg x = some (.ref (k.cl c))) (hb : Binds X.K fd ps ds) (hd : Vals dvs ds) (hdd : ∀ A C H, RepL k A C H dvs dds)
    (ha : PA X (e :: es) (LA k W ma)) (hdb : (x == ("__debug__" : Str)) = false := by decide) (he : starEach (e :: es) X.env = (false, eval e X.env) :: starEach es X.env := by rfl) (hpl : (backTo pos (starEach es X.env)).any (·.1) = false := by rfl) :
    PE X (.Call (.Name x pn) (e :: es) [] pos) (LE k W (mMake own c nf m dds ma)) := (pe_makeG (by rw [hK]; exact M) F hr hg hm hb hd (fun σ => passAt tk σ) ha hdb he hpl).cq fun _ _ _ h => le_make ar hnf hdd h
/-! ### o.f = e -/
def sFldS (c n : Nat) (me mo : ME) : MS := fun F C => bndS F.sl (me F C) fun v C1 => bndS F.sl (mo F C1) fun o C2 => match o with
  | .cell i => match C2[i]? with
    | some (some (.ins c' fs)) => if c' = c ∧ n ≤ fs.length then (match wr F.fl i (.ins c (if n < fs.length then fs.set n v else fs ++ [v])) C2 with
      | some C3 => .nx F.sl C3
      | none => .stuck) else .stuck
    | _ => .stuck
  | _ => .stuck
end
theorem putF_set {y : V} {f : Str} : ∀ {names : List Str} {vs : List V} {n : Nat}, names.Nodup → vs.length = names.length → names[n]? = some f → putF f y (names.zip vs) = names.zip (vs.set n y)
  | [], _, _, _, _, h => by simp at h
  | a :: r, [], _, _, hl, _ => by simp at hl
  | a :: r, b :: t, 0, nd, hl, h => by
    simp at h
    subst h
    simp [putF]
  | a :: r, b :: t, n + 1, nd, hl, h => by
    simp at h hl
    simp only [List.nodup_cons] at nd
    have ne : ¬ (a = f) := fun e => nd.1 (by rw [e]; exact List.mem_of_getElem? h)
    rw [List.zip_cons_cons, List.set_cons_succ, List.zip_cons_cons]
    show (if a = f then _ else (a, b) :: putF f y (r.zip t)) = _
    rw [if_neg ne, putF_set nd.2 hl h]
theorem putF_new {y : V} {f : Str} : ∀ {names : List Str} {vs : List V}, f ∉ names → vs.length = names.length → putF f y (names.zip vs) = (names ++ [f]).zip (vs ++ [y])
  | [], [], _, _ => rfl
  | [], _ :: _, _, hl => by simp at hl
  | a :: r, [], _, hl => by simp at hl
  | a :: r, b :: t, h, hl => by
    simp only [List.mem_cons, not_or] at h
    simp at hl
    rw [List.zip_cons_cons]
    show (if a = f then _ else (a, b) :: putF f y (r.zip t)) = _
    rw [if_neg (fun e => h.1 e.symm), putF_new h.2 hl]
    rfl
section
variable {X : Cx} {k : Cn} {W : WX} {σ : L2.St} {H : Hp} {E : Ends} {e o : Expr} {me mo : ME} {pos pos' : Pos}
theorem ls_fld {c n : Nat} {f : Str} (hc : Cls k.K (k.cl c)) (hno : NoAttr k.K (k.cl c) f) (nd : (k.fn c).Nodup) (hf : (k.fn c)[n]? = some f) (h9 : (k.fn c).length < 1000) (h : LS k W (sFldS c n me mo) E σ H) : sFld k.K (LE k W mo) (LE k W me) f E σ H := by
  obtain ⟨A, F, C, s, h⟩ := h
  refine ⟨A, F, C, s, (AftS.bnd (rel := RepD k) s h).mono fun dv C1 A1 H1 v p1 st1 rv h1 => ?_⟩
  have s1 := s.step p1 st1
  refine ⟨A1, F, C1, s1, (AftS.bnd (rel := RepD k) s1 h1).mono fun dO C2 A2 H2 o p2 st2 ro h2 => ?_⟩
  have s2 := s1.step p2 st2
  cases ro with
  | @cell i hi =>
    simp only at h2
    split at h2
    · rename_i c' fs ec
      split at h2
      · rename_i hcn
        obtain ⟨rfl, hn⟩ := hcn
        cases ew : wr F.fl i (.ins c' (if n < fs.length then fs.set n dv else fs ++ [dv])) C2 with
        | none => simp only [ew] at h2; exact h2.elim
        | some C3 =>
          simp only [ew] at h2
          obtain ⟨dx, vs, ha, hle, rvs⟩ := st2.at_ i _ ec
          have hnl : n < (k.fn c').length := (List.getElem?_eq_some_iff.mp hf).1
          obtain ⟨rfl, hcb⟩ := wr_some ew
          have hz : (((k.fn c').take fs.length).zip vs).length < 1000 := by rw [List.length_zip, List.length_take]; omega
          refine ⟨A2 i, k.cl c', dx, _, rfl, ha, hc, hno, hz, ?_⟩
          have vl : vs.length = ((k.fn c').take fs.length).length := by rw [rvs.length, List.length_take]; omega
          have rv2 := p2.rep _ _ rv
          by_cases hlt : n < fs.length
          · rw [if_pos hlt] at h2 hcb
            have e1 : putF f v (((k.fn c').take fs.length).zip vs) = ((k.fn c').take (fs.set n dv).length).zip (vs.set n v) := by
              rw [List.length_set]
              exact putF_set (nd.sublist (List.take_sublist _ _)) vl (by rw [List.getElem?_take_of_lt hlt]; exact hf)
            rw [e1]
            have q : Kp A2 C2 H2 A2 (C2.set i (some (.ins c' (fs.set n dv)))) (upd H2 (A2 i) (.ins (k.cl c') dx (((k.fn c').take (fs.set n dv).length).zip (vs.set n v)))) := kp_write st2 ec
            have w1 : Stp k F.fl A2 C2 H2 A2 _ _ := q.stp fun f h1 h2 l => low_set hcb h1 l
            have w2 : StOk k A2 _ _ := st2.write ec (c := .ins c' (fs.set n dv)) ⟨dx, vs.set n v, upd_same, by simpa using hle, (rvs.set rv2 n).kp q⟩
            exact h2 A2 σ _ w1 (s2.step w1 w2)
          · have en : n = fs.length := by omega
            rw [if_neg hlt] at h2 hcb
            have e1 : putF f v (((k.fn c').take fs.length).zip vs) = ((k.fn c').take (fs ++ [dv]).length).zip (vs ++ [v]) := by
              have e2 : (k.fn c').take (fs ++ [dv]).length = (k.fn c').take fs.length ++ [f] := by
                rw [List.length_append, List.length_singleton, List.take_add_one, ← en, hf]
                rfl
              rw [e2]
              refine putF_new (fun hm => ?_) vl
              obtain ⟨j, hj⟩ := List.mem_iff_getElem?.mp hm
              have hjl : j < fs.length := by
                have := (List.getElem?_eq_some_iff.mp hj).1
                rw [List.length_take] at this
                omega
              rw [List.getElem?_take_of_lt hjl] at hj
              have := nd_ix nd hj hf
              omega
            rw [e1]
            have q : Kp A2 C2 H2 A2 (C2.set i (some (.ins c' (fs ++ [dv])))) (upd H2 (A2 i) (.ins (k.cl c') dx (((k.fn c').take (fs ++ [dv]).length).zip (vs ++ [v])))) := kp_write st2 ec
            have w1 : Stp k F.fl A2 C2 H2 A2 _ _ := q.stp fun f h1 h2 l => low_set hcb h1 l
            have w2 : StOk k A2 _ _ := st2.write ec (c := .ins c' (fs ++ [dv])) ⟨dx, vs ++ [v], upd_same, by simp; omega, (rvs.append (.cons rv2 .nil)).kp q⟩
            exact h2 A2 σ _ w1 (s2.step w1 w2)
      · exact h2.elim
    · exact h2.elim
  | _ => exact h2.elim
theorem ds_fld (c n : Nat) {f : Str} (hK : X.K = k.K) (hc : Cls k.K (k.cl c)) (hno : NoAttr k.K (k.cl c) f) (nd : (k.fn c).Nodup) (hf : (k.fn c)[n]? = some f) (h9 : (k.fn c).length < 1000) (ho : PE X o (LE k W mo)) (he : PE X e (LE k W me)) (hs : swapsWith e (some (.Attribute o f pos')) pos.line X.env = pure false := by rfl) :
    PS X (.Assign [.Attribute o f pos'] e pos) (LS k W (sFldS c n me mo)) := (ps_fld ho he hs).cq fun _ _ _ h => by
  rw [hK]
  exact ls_fld hc hno nd hf h9 h
end
end CT
set_option maxHeartbeats 4000000
/-! DLB: properties, isinstance, comprehensions as statements, two clauses. -/
namespace CT
open PySem L2 PySem.Spec PyProof.Rows
/-! ### o.f, a property -/
def tPropS (Cc : Addr) (sp : Sp) (ta : TE) : TE := fun σ H Q => ta σ H fun x H1 => ∃ a dx fs, x = .ref a ∧ H1 a = some (.ins Cc dx fs) ∧ sp [.ref a] H1 Q E0
section
variable {X : Cx} {k : Cn} {W : WX} {σ : L2.St} {H : Hp} {Q : VK} {lev : Nat} {C p g a dx : Addr} {fs : List (Str × V)} {f : Str} {fd : FuncData} {ps : List Str} {np : Nat} {m : MF} {e o : Expr} {pos : Pos} {ta : TE} {mo : ME}
theorem getprop_G {sp : Sp} {pins : List (Addr × Obj)} {σ : L2.St} {H : Hp} {s : Shared} {Q : VK} {b : Bool} (I : Inv X pins σ H s) (ea : H a = some (.ins C dx fs)) (c : Cls X.K C) (hp : PropOf X.K C f p g)
    (F : FnG X.prog X.w X.K X.mg X.base lev g fd ps sp) (hr : RoomG (lev + 1) X.A) (hb : Binds X.K fd ps []) (h : sp [.ref a] H Q E0) :
    wpAny (model X.prog X.w) X.A (getAttr (.ref a) f b) (EP X pins σ Q) X.xe s := by
  obtain ⟨mA, O, _, _, _, _⟩ := ins_get I.hok ea
  obtain ⟨od, J, _⟩ := O.look
  obtain ⟨rest, hrec⟩ := hp.rec_
  have I1 := I.tok (s.toks + 1)
  have hl : ([Value.ref a] ++ []).length = ps.length := by
    rw [← F.len _ _ _ _ h]
    rfl
  have hc : (PySem.W.clsIn X.K C).isSome = true := by
    obtain ⟨cd, hc, _⟩ := PySem.W.any_some c.hd
    rw [hc]
    rfl
  refine PySem.W.get_bind I.kIn J (PySem.W.plainGet_of (c.get f)).1 (PySem.W.findObj_data hc hp.at_ hp.get hp.tak) (PySem.W.plainGet_of (c.get f)).2 (wpAny_call (PySem.W.prop_get (s := { s with toks := s.toks + 1 }) I.kIn hrec ?_))
  refine codeAny_mono (F.run X.A.in1 X.stack { s with toks := s.toks + 1 } H ⟨[.ref a], []⟩ [.ref a] [.ref a] Q E0 hr.in1 I1.env0.in1 (by simpa using hb _ [.ref a] I1.kIn hl) (.cons rfl .nil) h) fun r s' hq => ?_
  cases r with
  | error er =>
    obtain ⟨_, _, _, _, _, _, _, _, _, _, _, _, z⟩ := hq
    exact z.elim
  | ok fl =>
    cases fl with
    | ret u =>
      obtain ⟨v, H', I3, rv, q3⟩ := I1.after hq
      show wpAny _ _ (handedOut u) _ _ _
      rw [PySem.W.handedOut_of (handed_of rv)]
      exact wpAny_pure ⟨v, H', I3, rv, q3⟩
    | next => exact False.elim hq
    | brk => exact False.elim hq
    | cont => exact False.elim hq
theorem pe_propG {sp : Sp} (he : PE X e ta) (c : Cls X.K C) (hp : PropOf X.K C f p g) (F : FnG X.prog X.w X.K X.mg X.base lev g fd ps sp) (hr : RoomG (lev + 1) X.A) (hb : Binds X.K fd ps [])
    (hab : attributeBase e f X.env (eval e X.env) = eval e X.env) : PE X (.Attribute e f pos) (tPropS C sp ta) := by
  refine ⟨fun pins s σ H Q I h => ?_⟩
  refine attr_of hab (thn (he.run pins s σ H _ I h) fun u s1 ⟨x, H1, I1, rx, a, dx, fs, ex, ea, q⟩ => ?_)
  subst ex
  obtain rfl : u = Value.ref a := rx
  exact getprop_G I1 ea c hp F hr hb q
theorem le_prop {c : Nat} (ar : Ar np m) (h : LE k W (mProp c m mo) σ H Q) : tPropS (k.cl c) (SpD k np m) (LE k W mo) σ H Q := by
  obtain ⟨A, F, C, s, h⟩ := h
  refine ⟨A, F, C, s, (Aft.bnd (rel := RepD k) h).mono fun dx C1 A1 H1 v p1 st1 r1 h1 => ?_⟩
  split at h1
  · rename_i c' fs ev
    split at h1
    · rename_i hcc
      subst hcc
      obtain ⟨a, dx', vs, rfl, ha, hle, rv⟩ := vO_at st1 r1 ev
      refine ⟨a, dx', _, rfl, ha, sp_of (s.step p1 st1).fl ar st1 (.cons r1 .nil) ?_⟩
      cases em : m [dx] C1 with
      | ok d C2 => rw [em] at h1; exact h1
      | exc e C2 => rw [em] at h1; exact h1.elim
      | stuck => rw [em] at h1; exact h1.elim
    · exact h1.elim
  · exact h1.elim
theorem de_prop (c : Nat) (hK : X.K = k.K) (he : PE X o (LE k W mo)) (hc : Cls k.K (k.cl c)) (hp : PropOf k.K (k.cl c) f p g) (F : FnG X.prog X.w X.K X.mg X.base lev g fd ps (SpD k np m)) (ar : Ar np m) (hr : RoomG (lev + 1) X.A) (hb : Binds X.K fd ps [])
    (hab : attributeBase o f X.env (eval o X.env) = eval o X.env := by rfl) : PE X (.Attribute o f pos) (LE k W (mProp c m mo)) :=
  (pe_propG he (by rw [hK]; exact hc) (by rw [hK]; exact hp) F hr hb hab).cq fun _ _ _ h => le_prop ar h
end
/-! ### isinstance -/
theorem isaT_ok : ∀ a b : Bt, kitB a.name b.name = some (isaT a b) := by
  intro a b
  cases a <;> cases b <;> decide +kernel
/-- what the written part says of the own classes in kn -/
structure IsaOk (k : Cn) (kn : List Nat) : Prop where
  ins : ∀ c ∈ kn, C8.InsC k.K (k.cl c)
  own : ∀ c ∈ kn, ∀ c' ∈ kn, PySem.W.kitOne k.K (.ref (k.cl c)) (.ref (k.cl c')) = some (decide (c = c'))
  bty : ∀ c ∈ kn, ∀ b : Bt, PySem.W.kitOne k.K (.ref (k.cl c)) (.type b.name) = some false
  tyb : ∀ c ∈ kn, ∀ b : Bt, PySem.W.kitOne k.K (.type b.name) (.ref (k.cl c)) = some false
def Cc.inn (kn : List Nat) : Cc → Bool
  | .ty _ => true
  | .own c => decide (c ∈ kn)
section
variable {X : Cx} {k : Cn} {W : WX} {σ : L2.St} {H : Hp} {Q : VK}
theorem isi_ok {kn : List Nat} (ok : IsaOk k kn) {A : Nat → Addr} {C : Store} {v : V} {d : D} {t : Cc} {b : Bool} (ht : t.inn kn = true) (st : StOk k A C H) (r : Rep k A C H v d) (e : isi kn d C t = some b) : ∃ c0 : Cc, tyD d C = some c0 ∧ TyX k.K H v (c0.val k) ∧ PySem.W.kitOne k.K (c0.val k) (t.val k) = some b := by
  have base : ∀ a : Bt, tyD d C = some (.ty a) → PySem.W.kitOne k.K (.type a.name) (t.val k) = some b := fun a ea => by
    unfold isi at e
    rw [ea] at e
    cases t with
    | ty b' =>
      cases e
      exact kit_ty (isaT_ok a b')
    | own c =>
      cases e
      exact ok.tyb c (of_decide_eq_true ht) a
  have inst : ∀ c fs dx (a : Addr), tyD d C = some (.own c) → H a = some (.ins (k.cl c) dx fs) → ∃ c0 : Cc, tyD d C = some c0 ∧ TyX k.K H (.ref a) (c0.val k) ∧ PySem.W.kitOne k.K (c0.val k) (t.val k) = some b := fun c fs dx a ea ha => by
    unfold isi at e
    rw [ea] at e
    simp only at e
    split at e
    · rename_i hc
      have I := ok.ins c hc
      refine ⟨.own c, ea, .base (.ins ha I.cl I.ha I.hn I.htk I.hm), ?_⟩
      cases t with
      | ty b' => cases e; exact ok.bty c hc b'
      | own c' => cases e; exact ok.own c hc c' (of_decide_eq_true ht)
    · cases e
  cases r with
  | non => exact ⟨.ty .none, rfl, .base .non, base .none rfl⟩
  | bl b => exact ⟨.ty .bool, rfl, .base (.bl b), base .bool rfl⟩
  | int i => exact ⟨.ty .int, rfl, .base (.int i), base .int rfl⟩
  | str s => exact ⟨.ty .str, rfl, .base (.str s), base .str rfl⟩
  | lst l h rv => exact ⟨.ty .list, rfl, .base (.lst h), base .list rfl⟩
  | tup l h rv => exact ⟨.ty .tuple, rfl, .base (.tup h), base .tuple rfl⟩
  | ktup h rv =>
    obtain ⟨o, its, n, h1, h2, _⟩ := h
    exact ⟨.ty .tuple, rfl, .kTuple h1 h2, base .tuple rfl⟩
  | scr l h rv => cases e
  | kscr h rv => cases e
  | obj l h z rv => exact inst _ _ _ _ rfl h
  | exn x l h z rv => cases e
  | cls c => cases e
  | @dT a kvs ds l h rv =>
    cases kvs with
    | nil =>
      rcases h with h | h
      · exact ⟨.ty .dict, rfl, .base (.dT h), base .dict rfl⟩
      · exact absurd rfl h.1
    | cons p t => cases e
  | @cell i hi =>
    cases ec : C[i]? with
    | none => simp only [isi, tyD, ec] at e; cases e
    | some oc =>
      cases oc with
      | none => simp only [isi, tyD, ec] at e; cases e
      | some c =>
        cases c with
        | lst xs =>
          obtain ⟨vs, hv, _⟩ := st.at_ i _ ec
          exact ⟨.ty .list, by simp only [tyD, ec], .base (.lst hv), base .list (by simp only [tyD, ec])⟩
        | dT ks xs =>
          obtain ⟨vs, hv, _⟩ := st.at_ i _ ec
          exact ⟨.ty .dict, by simp only [tyD, ec], .base (.dT hv), base .dict (by simp only [tyD, ec])⟩
        | ins c xs =>
          obtain ⟨dx, vs, hv, _⟩ := st.at_ i _ ec
          exact inst c _ dx _ (by simp only [tyD, ec]) hv
theorem le_isi {kn : List Nat} {t : Cc} {m : ME} (ok : IsaOk k kn) (ht : t.inn kn = true) (h : LE k W (mIsi kn t m) σ H Q) : tCB (rIsi k.K) (tCons (LE k W m) (tCons (tC (t.v k)) tNil)) σ H Q := by
  obtain ⟨A, F, C, s, h⟩ := h
  refine ⟨A, F, C, s, (Aft.bnd (rel := RepD k) h).mono fun d C1 A1 H1 v p1 st1 r1 h1 => ?_⟩
  split at h1
  · rename_i b e
    obtain ⟨c0, _, h2, h3⟩ := isi_ok ok ht st1 r1 e
    exact ⟨v, t.v k, c0.val k, t.val k, b, rfl, t.cls, h2, h3, h1 A1 H1 _ Stp.refl st1 (.bl b)⟩
  · exact h1.elim
theorem le_isi2 {kn : List Nat} {t u : Cc} {m : ME} (ok : IsaOk k kn) (ht : t.inn kn = true) (hu : u.inn kn = true) (h : LE k W (mIsi2 kn t u m) σ H Q) : tCB (rIsiT k.K) (tCons (LE k W m) (tCons (tTup (tCons (tC (t.v k)) (tCons (tC (u.v k)) tNil))) tNil)) σ H Q := by
  obtain ⟨A, F, C, s, h⟩ := h
  refine ⟨A, F, C, s, (Aft.bnd (rel := RepD k) h).mono fun d C1 A1 H1 v p1 st1 r1 h1 => ?_⟩
  split at h1
  · rename_i b b' e e'
    refine ⟨by show 2 ≤ sizeLine; decide, fun p hp => ?_⟩
    have q : Kp A1 C1 H1 A1 C1 (upd H1 p (.tup [t.v k, u.v k])) := kp_new hp
    have r2 := r1.kp (k := k) q
    have st2 := st1.new (o := .tup [t.v k, u.v k]) hp
    obtain ⟨c0, g1, h2, h3⟩ := isi_ok ok ht st2 r2 e
    obtain ⟨c1, g2, h2', h3'⟩ := isi_ok ok hu st2 r2 e'
    rw [g1] at g2
    cases g2
    refine ⟨v, p, [t.v k, u.v k], c0.val k, [t.val k, u.val k], b || b', rfl, upd_same, .cons t.cls (.cons u.cls .nil), h2, ?_, h1 A1 _ _ q.stp0 st2 (.bl _)⟩
    refine kitAny_cons h3 (fun hb => ?_) fun hb => by rw [hb]; rfl
    refine kitAny_cons h3' (fun hb' => ?_) fun hb' => by rw [hb']; simp
    rw [hb, hb']
    rfl
  · exact h1.elim
end
end CT
set_option maxHeartbeats 4000000
/-! DLC: isinstance as an expression; comprehensions that are assigned, and of two clauses; xs[i] += e; membership; list(range(..)). -/
namespace CT
open PySem L2 PySem.Spec PyProof.Rows
section
variable {X : Cx} {k : Cn} {W : WX} {σ : L2.St} {H : Hp} {Q : VK} {E : Ends}
theorem de_isi {e c : Expr} {p pos : Pos} {kn : List Nat} {t : Cc} {m : ME} (hg : Gl X "isinstance") (hm : X.mg "isinstance" = none) (ok : IsaOk k kn) (ht : t.inn kn = true) (hK : X.K = k.K) (he : PE X e (LE k W m)) (hc : PE X c (tC (t.v k)))
    (hs : starEach [e, c] X.env = (false, eval e X.env) :: starEach [c] X.env := by rfl) (hs2 : starEach [c] X.env = (false, eval c X.env) :: starEach [] X.env := by rfl) (hpl : (backTo pos (starEach [c] X.env)).any (·.1) = false := by rfl) : PE X (.Call (.Name "isinstance" p) [e, c] [] pos) (LE k W (mIsi kn t m)) :=
  (pe_callB call_isi hg hm (by decide +kernel) (pa_cons he (pa_cons hc pa_nil hs2) hs) (he := hs) (hpl := hpl)).cq fun _ _ _ h => by
    rw [hK]
    exact le_isi ok ht h
theorem de_isi2 {e c c' : Expr} {p pos tp : Pos} {kk : Nat} {kn : List Nat} {t u : Cc} {m : ME} (hg : Gl X "isinstance") (hm : X.mg "isinstance" = none) (ok : IsaOk k kn) (ht : t.inn kn = true) (hu : u.inn kn = true) (hK : X.K = k.K) (he : PE X e (LE k W m)) (hc : PE X c (tC (t.v k))) (hc' : PE X c' (tC (u.v k)))
    (hs : starEach [e, .Tuple [c, c'] kk tp] X.env = (false, eval e X.env) :: starEach [.Tuple [c, c'] kk tp] X.env := by rfl) (hs2 : starEach [.Tuple [c, c'] kk tp] X.env = (false, eval (.Tuple [c, c'] kk tp) X.env) :: starEach [] X.env := by rfl) (hpl : (backTo pos (starEach [.Tuple [c, c'] kk tp] X.env)).any (·.1) = false := by rfl)
    (h3 : starEach [c, c'] X.env = (false, eval c X.env) :: starEach [c'] X.env := by rfl) (h4 : starEach [c'] X.env = (false, eval c' X.env) :: starEach [] X.env := by rfl) : PE X (.Call (.Name "isinstance" p) [e, .Tuple [c, c'] kk tp] [] pos) (LE k W (mIsi2 kn t u m)) :=
  (pe_callB call_isiT hg hm (by decide +kernel) (pa_cons he (pa_cons (pe_tup (pa_cons hc (pa_cons hc' pa_nil h4) h3)) pa_nil hs2) hs) (he := hs) (hpl := hpl)).cq fun _ _ _ h => by
    rw [hK]
    exact le_isi2 ok ht hu h
/-! ### tests of a clause -/
theorem _root_.L2.PTs.cq {X : Cx} {e : List Expr} {t t' : TT} (h : PTs X e t) (c : ∀ σ H Q, t' σ H Q → t σ H Q) : PTs X e t' := ⟨fun pins s σ H Q I q => h.run pins s σ H Q I (c σ H Q q)⟩
theorem dts_nil : PTs X [] (LT k W tYesM) := pts_nil.cq fun σ H Q h => by
  obtain ⟨A, F, C, s, h⟩ := h
  exact h A H true Stp.refl s.st rfl
/-! ### y = [..] -/
theorem ds_setLc {i : Nat} {y : Str} {py : Pos} {elt tg iter : Expr} {ifs : List Expr} {scope : Scope} {own : List (Str × Nat)} {pos spos : Pos} {mi : MI} {t : Tgt} {tt : MT} {te : ME} (ow : Bool) (hK : X.K = k.K) (hc : X.calm = true) (hN : X.N.Nodup) (hy : X.N[i]? = some y) (hyl : X.env.scope.names.lookup y = some .local)
    (hsw : swapsWith (.ListComp elt [⟨tg, iter, ifs, 0⟩] scope pos) (some (.Name y py)) spos.line X.env = pure true) (hi : PI X tg iter (LI k W mi)) (ok : BlkOk X.N X.env.scope scope own) (hv : ∀ i ∈ t.slots, i ∈ own.map (·.2))
    (hg : ∀ (s : Shared) (H : Hp) (C : Addr) (cl : List (Str × Addr)) (fp : List Addr), PG (X.blk s H scope (compEnvC scope cl C X.env) fp) tg (t.T k.K)) (ht : ∀ (s : Shared) (H : Hp) (C : Addr) (cl : List (Str × Addr)) (fp : List Addr), PTs (X.blk s H scope (compEnvC scope cl C X.env) fp) ifs (LT k WF tt))
    (he : ∀ (s : Shared) (H : Hp) (C : Addr) (cl : List (Str × Addr)) (fp : List Addr), PE (X.blk s H scope (compEnvC scope cl C X.env) fp) elt (LE k WF te)) (hs : ∀ x, foldedSetIterable iter X.env x = pure x := by intro _; rfl) :
    PS X (.Assign [.Name y py] (.ListComp elt [⟨tg, iter, ifs, 0⟩] scope pos) spos) (LS k W (sAsg (mLc ow mi t.M tt te (own.map (·.2))) (gN i))) :=
  (ps_setLc hc hN hy hyl hsw hi ok hg ht he hs).cq fun _ _ _ h => le_lc hv (ls_asg2 (t := .nm i) h)
/-! ### two clauses -/
def lc2N (it : ItD) (g : MG) (tt : MT) (mi1 : MI) (g1 : MG) (tt1 : MT) (te : ME) (n : Nat) (sl : List (Option D)) (vs1 : List Nat) : Nat → Nat → Store → R Unit
  | 0, _, C => if it.fin C = true then .ok () C else .stuck
  | r + 1, j, C => match it.item j C with
    | none => .stuck
    | some d => match g d sl with
      | none => .stuck
      | some sl1 => bn0 (tt ⟨n, sl1⟩ C) fun b C1 => if b = true then bn0 (mi1 ⟨n, sl1⟩ C1) fun it1 C2 => bn0 (lcN it1 g1 tt1 te n (wipeD sl1 vs1) it1.n 0 C2) fun _ C3 => lc2N it g tt mi1 g1 tt1 te n sl vs1 r (j + 1) C3
        else lc2N it g tt mi1 g1 tt1 te n sl vs1 r (j + 1) C1
def mLc2 (own : Bool) (mi : MI) (g : MG) (tt : MT) (mi1 : MI) (g1 : MG) (tt1 : MT) (te : ME) (vs vs1 : List Nat) : ME := fun F C => bnd (mi F C) fun it C1 => bn0 (lc2N it g tt mi1 g1 tt1 te C1.length (wipeD F.sl vs) vs1 it.n 0 (C1 ++ [some (.lst [])])) fun _ C2 => lcEnd own C1.length C2
theorem bn0_out {α β : Type} {m : R α} {f : α → Store → R β} {b : β} {C : Store} (h : bn0 m f = .ok b C) : ∃ a C1, m = .ok a C1 ∧ f a C1 = .ok b C := by
  cases m with
  | ok a C1 => exact ⟨a, C1, rfl, h⟩
  | exc e C1 => cases h
  | stuck => cases h
/-- the inner loop -/
theorem lc_inner {fl n : Nat} {J : It} {it : ItD} {t : Tgt} {tt : MT} {te : ME} {vs : List Nat} {sl0 : List (Option D)} {A : Nat → Addr} {C C3 : Store} {Dl : Addr} {Nx : Hp → Prop} (hv : ∀ i ∈ t.slots, i ∈ vs) (hf : fl ≤ n) (ok : ItOk k fl J it A C H) (sr : SR k A ⟨n, sl0⟩ C σ H) (hn : n < C.length) (ha : A n = Dl)
    (e : lcN it t.M tt te n (wipeD sl0 vs) it.n 0 C = .ok () C3) (hN : ∀ A' H', Stp k n A C H A' C3 H' → StOk k A' C3 H' → Nx H') :
    ∃ W1 : Nat → Nat → Hp → Prop, (∃ m, W1 0 m H) ∧ ∀ i m H, W1 i m H → (J.stop i H ∧ Nx H) ∨ (J.go i H ∧ ∃ Nx1 : Hp → Prop, (∀ H', Nx1 H' → ∃ m', m' < m ∧ W1 (i + 1) m' H') ∧ ∀ x H', J.yld i H x H' → t.T k.K x (L2.wipe σ vs) H' fun σ3 H5 => L2.wipe σ3 vs = L2.wipe σ vs ∧ LT k WF tt σ3 H5 fun b H6 =>
      if b = true then LE k WF te σ3 H6 fun y H7 => ∃ acc, H7 Dl = some (.lst acc) ∧ acc.length < sizeLine ∧ Nx1 (upd H7 Dl (.lst (acc ++ [y]))) else Nx1 H6) := by
  refine ⟨fun i m H' => ∃ A' C', m = it.n - i ∧ i ≤ it.n ∧ Stp k n A C H A' C' H' ∧ StOk k A' C' H' ∧ lcN it t.M tt te n (wipeD sl0 vs) (it.n - i) i C' = .ok () C3,
    ⟨it.n, _, _, rfl, Nat.zero_le _, Stp.refl, sr.st, e⟩, ?_⟩
  rintro i m H' ⟨A', C', rfl, hi, p, st', h'⟩
  obtain ⟨ha', hl'⟩ := cell_at p ha hn
  have low' : LowC n C' := p.low _ (Nat.le_refl _) (Nat.le_of_lt hn) sr.low
  obtain ⟨o1, o2⟩ := ok A' C' H' (p.less hf) st'
  cases er : it.n - i with
  | zero =>
    rw [er] at h'
    unfold lcN at h'
    have e : i = it.n := by omega
    split at h'
    · rename_i hf
      cases h'
      subst e
      exact .inl ⟨o2 hf, hN A' H' p st'⟩
    · cases h'
  | succ r =>
    rw [er] at h'
    unfold lcN at h'
    have hlt : i < it.n := by omega
    have hr : it.n - (i + 1) = r := by omega
    cases ei : it.item i C' with
    | none => simp only [ei] at h'; cases h'
    | some d =>
      simp only [ei] at h'
      obtain ⟨g1, g2⟩ := o1 i d hlt ei
      cases eg : t.M d (wipeD sl0 vs) with
      | none => simp only [eg] at h'; cases h'
      | some sl1 =>
        simp only [eg] at h'
        refine .inr ⟨g1, fun H4 => ∃ A4 C4, Stp k n A C H A4 C4 H4 ∧ StOk k A4 C4 H4 ∧ lcN it t.M tt te n (wipeD sl0 vs) (it.n - (i + 1)) (i + 1) C4 = .ok () C3,
          fun H4 ⟨A4, C4, a, b, c⟩ => ⟨it.n - (i + 1), by omega, A4, C4, rfl, by omega, a, b, c⟩, fun x H'' y => ?_⟩
        obtain ⟨A'', py, sty, rx⟩ := g2 x H'' y
        have py' : Stp k n A' C' H' A'' C' H'' := ⟨py.rep, py.len, fun f _ _ h => h, py.frz⟩
        have s9 : SR k A'' ⟨n, wipeD sl0 vs⟩ C' (L2.wipe σ vs) H'' := ((sr.re (p.trans py') sty low' (Nat.le_of_lt hl')).wipe vs)
        refine Tgt.of (vs0 := vs) s9 rx eg fun σ2 s2 w2 => ⟨by rw [w2 hv, wipe_wipe], A'', ⟨n, sl1⟩, C', s2, ?_⟩
        cases et : tt ⟨n, sl1⟩ C' with
        | ok b C5 =>
          rw [et] at h'
          simp only [bn0_ok] at h'
          intro A5 H5 v5 p5 st5 e5
          have e5 : v5 = b := e5
          subst e5
          have s5 := s2.step p5 st5
          cases v5 with
          | true =>
            rw [if_pos rfl] at h'
            refine iteT ⟨A5, ⟨n, sl1⟩, C5, s5, ?_⟩
            cases ee : te ⟨n, sl1⟩ C5 with
            | ok yd C6 =>
              rw [ee] at h'
              simp only [bn0_ok] at h'
              intro A6 H6 v6 p6 st6 r6
              have pall := (p.trans py').trans (p5.trans p6)
              obtain ⟨ha6, hl6⟩ := cell_at pall ha hn
              split at h'
              · rename_i acc hc
                split at h'
                · rename_i hz
                  obtain ⟨ws, hw, rw6⟩ := st6.at_ _ _ hc
                  rw [ha6] at hw
                  obtain ⟨q1, q2⟩ := push_L (k := k) (fl := n) (Nat.le_refl _) st6 ha6 hc hw r6
                  refine ⟨ws, hw, by have := szN_le hz; rw [rw6.length]; omega, A6, _, pall.trans q1, q2, ?_⟩
                  rw [hr]
                  exact h'
                · cases h'
              · cases h'
            | exc e C6 => rw [ee] at h'; cases h'
            | stuck => rw [ee] at h'; cases h'
          | false =>
            rw [if_neg (by decide)] at h'
            refine iteF ⟨A5, C5, (p.trans py').trans p5, st5, ?_⟩
            rw [hr]
            exact h'
        | exc e C5 => rw [et] at h'; cases h'
        | stuck => rw [et] at h'; cases h'
theorem le_lc2 {own : Bool} {mi mi1 : MI} {t t1 : Tgt} {tt tt1 : MT} {te : ME} {vs vs1 : List Nat} (hv : ∀ i ∈ t.slots, i ∈ vs) (hv1 : ∀ i ∈ t1.slots, i ∈ vs1) (h : LE k W (mLc2 own mi t.M tt mi1 t1.M tt1 te vs vs1) σ H Q) :
    tLc2 (LI k W mi) (t.T k.K) (LT k WF tt) (LI k WF mi1) (t1.T k.K) (LT k WF tt1) (LE k WF te) vs vs1 σ H Q := by
  obtain ⟨A, F, C, s, h⟩ := h
  refine ⟨A, F, C, s, (Aft.bnd (rel := fun A C H (J : It) (it : ItD) => ItOk k F.fl J it A C H) h).mono fun it C1 A1 H1 J p1 st1 ok h1 => ?_⟩
  have s1 := s.step p1 st1
  intro Dl hD
  have q0 : Kp A1 C1 H1 (ext A1 C1.length Dl) (C1 ++ [some (.lst [])]) (upd H1 Dl (.lst [])) := kp_cell (k := k) st1 hD
  have p2 : Stp k C1.length A1 C1 H1 (ext A1 C1.length Dl) (C1 ++ [some (.lst [])]) (upd H1 Dl (.lst [])) := q0.stp fun f h1 h2 l => low_app h2 l
  have p2' : Stp k F.fl A1 C1 H1 (ext A1 C1.length Dl) (C1 ++ [some (.lst [])]) (upd H1 Dl (.lst [])) := p2.less s1.fl
  have st2 : StOk k (ext A1 C1.length Dl) (C1 ++ [some (.lst [])]) (upd H1 Dl (.lst [])) := st1.cell hD ⟨[], upd_same, .nil⟩
  have n1 : C1.length < (C1 ++ [some (Cell.lst [])]).length := by simp
  have low1 : LowC C1.length (C1 ++ [some (Cell.lst [])]) := p2.low _ (Nat.le_refl _) (Nat.le_refl _) st1.low
  obtain ⟨C3, e3, h3⟩ := bn0_inv h1
  refine ⟨fun i m H' => ∃ A' C', m = it.n - i ∧ i ≤ it.n ∧ Stp k C1.length (ext A1 C1.length Dl) (C1 ++ [some (.lst [])]) (upd H1 Dl (.lst [])) A' C' H' ∧ StOk k A' C' H' ∧ lc2N it t.M tt mi1 t1.M tt1 te C1.length (wipeD F.sl vs) vs1 (it.n - i) i C' = .ok () C3,
    ⟨it.n, _, _, rfl, Nat.zero_le _, Stp.refl, st2, e3⟩, ?_⟩
  rintro i m H' ⟨A', C', rfl, hi, p, st', h'⟩
  obtain ⟨ha', hl'⟩ := cell_at p (ext_at A1 C1.length Dl) n1
  have low' : LowC C1.length C' := p.low _ (Nat.le_refl _) (Nat.le_of_lt n1) low1
  have pF : Stp k F.fl (ext A1 C1.length Dl) (C1 ++ [some (.lst [])]) (upd H1 Dl (.lst [])) A' C' H' := p.less s1.fl
  obtain ⟨o1, o2⟩ := ok A' C' H' (p2'.trans pF) st'
  cases er : it.n - i with
  | zero =>
    rw [er] at h'
    unfold lc2N at h'
    have e : i = it.n := by omega
    split at h'
    · rename_i hf
      cases h'
      subst e
      exact .inl ⟨o2 hf, le_lcEnd s1.fl Stp.refl st1 (p2'.trans pF) low' st' ha' hl' h3⟩
    · cases h'
  | succ r =>
    rw [er] at h'
    unfold lc2N at h'
    have hlt : i < it.n := by omega
    have hr : it.n - (i + 1) = r := by omega
    cases ei : it.item i C' with
    | none => simp only [ei] at h'; cases h'
    | some d =>
      simp only [ei] at h'
      obtain ⟨g1, g2⟩ := o1 i d hlt ei
      cases eg : t.M d (wipeD F.sl vs) with
      | none => simp only [eg] at h'; cases h'
      | some sl1 =>
        simp only [eg] at h'
        refine .inr ⟨g1, fun H4 => ∃ A4 C4, Stp k C1.length (ext A1 C1.length Dl) (C1 ++ [some (.lst [])]) (upd H1 Dl (.lst [])) A4 C4 H4 ∧ StOk k A4 C4 H4 ∧ lc2N it t.M tt mi1 t1.M tt1 te C1.length (wipeD F.sl vs) vs1 (it.n - (i + 1)) (i + 1) C4 = .ok () C3,
          fun H4 ⟨A4, C4, a, b, c⟩ => ⟨it.n - (i + 1), by omega, A4, C4, rfl, by omega, a, b, c⟩, fun x H'' y => ?_⟩
        obtain ⟨A'', py, sty, rx⟩ := g2 x H'' y
        have py' : Stp k C1.length A' C' H' A'' C' H'' := ⟨py.rep, py.len, fun f _ _ h => h, py.frz⟩
        have sr : SR k A'' ⟨C1.length, wipeD F.sl vs⟩ C' (L2.wipe σ vs) H'' := ((s1.re (p2.trans (p.trans py')) sty low' (Nat.le_of_lt hl')).wipe vs)
        refine Tgt.of (vs0 := vs) sr rx eg fun σ2 s2 w2 => ⟨by rw [w2 hv, wipe_wipe], A'', ⟨C1.length, sl1⟩, C', s2, ?_⟩
        obtain ⟨b, C5, et, h'⟩ := bn0_out h'
        rw [et]
        intro A5 H5 v5 p5 st5 e5
        have e5 : v5 = b := e5
        subst e5
        have s5 := s2.step p5 st5
        cases v5 with
        | true =>
          rw [if_pos rfl] at h'
          obtain ⟨it1, C6, em, h'⟩ := bn0_out h'
          obtain ⟨u, C7, el, h'⟩ := bn0_out h'
          refine iteT ⟨A5, ⟨C1.length, sl1⟩, C5, s5, ?_⟩
          rw [em]
          intro A6 H6 J1 p6 st6 ok6
          have pall := (p.trans py').trans (p5.trans p6)
          obtain ⟨ha6, hl6⟩ := cell_at pall (ext_at A1 C1.length Dl) n1
          refine lc_inner (fl := C1.length) (n := C1.length) hv1 (Nat.le_refl _) ok6 (s5.step p6 st6) hl6 ha6 el fun A7 H7 p7 st7 => ⟨A7, C7, pall.trans p7, st7, ?_⟩
          rw [hr]
          exact h'
        | false =>
          rw [if_neg (by decide)] at h'
          refine iteF ⟨A5, C5, (p.trans py').trans p5, st5, ?_⟩
          rw [hr]
          exact h'
section
variable {elt tg iter tg1 iter1 : Expr} {ifs ifs1 : List Expr} {scope : Scope} {own : List (Str × Nat)} {vs1 : List Nat} {pos : Pos} {mi mi1 : MI} {t t1 : Tgt} {tt tt1 : MT} {te : ME}
theorem de_lc2 (ow : Bool) (hK : X.K = k.K) (hc : X.calm = true) (hN : X.N.Nodup) (hi : PI X tg iter (LI k W mi)) (ok : BlkOk X.N X.env.scope scope own) (hv : ∀ i ∈ vs1, i ∈ own.map (·.2)) (hv0 : ∀ i ∈ t.slots, i ∈ own.map (·.2)) (hv1 : ∀ i ∈ t1.slots, i ∈ vs1)
    (hg : ∀ (s : Shared) (H : Hp) (C : Addr) (cl : List (Str × Addr)) (fp : List Addr), PG (X.blk s H scope (compEnvC scope cl C X.env) fp) tg (t.T k.K)) (ht : ∀ (s : Shared) (H : Hp) (C : Addr) (cl : List (Str × Addr)) (fp : List Addr), PTs (X.blk s H scope (compEnvC scope cl C X.env) fp) ifs (LT k WF tt))
    (hi1 : ∀ (s : Shared) (H : Hp) (C : Addr) (cl : List (Str × Addr)) (fp : List Addr), PI (X.blk s H scope (compEnvC scope cl C X.env) fp) tg1 iter1 (LI k WF mi1))
    (hg1 : ∀ (s : Shared) (H : Hp) (C : Addr) (cl : List (Str × Addr)) (fp : List Addr), PG (X.blk s H scope (compEnvC scope cl C X.env) fp) tg1 (t1.T k.K)) (ht1 : ∀ (s : Shared) (H : Hp) (C : Addr) (cl : List (Str × Addr)) (fp : List Addr), PTs (X.blk s H scope (compEnvC scope cl C X.env) fp) ifs1 (LT k WF tt1))
    (he : ∀ (s : Shared) (H : Hp) (C : Addr) (cl : List (Str × Addr)) (fp : List Addr), PE (X.blk s H scope (compEnvC scope cl C X.env) fp) elt (LE k WF te)) (hs : ∀ x, foldedSetIterable iter X.env x = pure x := by intro _; rfl) (hs1 : ∀ env x, foldedSetIterable iter1 env x = pure x := by intro _ _; rfl) :
    PE X (.ListComp elt [⟨tg, iter, ifs, 0⟩, ⟨tg1, iter1, ifs1, 0⟩] scope pos) (LE k W (mLc2 ow mi t.M tt mi1 t1.M tt1 te (own.map (·.2)) vs1)) :=
  (pe_lc2 hc hN hi ok hv hg ht hi1 hg1 ht1 he hs hs1).cq fun _ _ _ h => le_lc2 hv0 hv1 h
theorem ds_setLc2 {i : Nat} {y : Str} {py spos : Pos} (ow : Bool) (hK : X.K = k.K) (hc : X.calm = true) (hN : X.N.Nodup) (hy : X.N[i]? = some y) (hyl : X.env.scope.names.lookup y = some .local)
    (hsw : swapsWith (.ListComp elt [⟨tg, iter, ifs, 0⟩, ⟨tg1, iter1, ifs1, 0⟩] scope pos) (some (.Name y py)) spos.line X.env = pure true) (hi : PI X tg iter (LI k W mi)) (ok : BlkOk X.N X.env.scope scope own) (hv : ∀ i ∈ vs1, i ∈ own.map (·.2)) (hv0 : ∀ i ∈ t.slots, i ∈ own.map (·.2)) (hv1 : ∀ i ∈ t1.slots, i ∈ vs1)
    (hg : ∀ (s : Shared) (H : Hp) (C : Addr) (cl : List (Str × Addr)) (fp : List Addr), PG (X.blk s H scope (compEnvC scope cl C X.env) fp) tg (t.T k.K)) (ht : ∀ (s : Shared) (H : Hp) (C : Addr) (cl : List (Str × Addr)) (fp : List Addr), PTs (X.blk s H scope (compEnvC scope cl C X.env) fp) ifs (LT k WF tt))
    (hi1 : ∀ (s : Shared) (H : Hp) (C : Addr) (cl : List (Str × Addr)) (fp : List Addr), PI (X.blk s H scope (compEnvC scope cl C X.env) fp) tg1 iter1 (LI k WF mi1))
    (hg1 : ∀ (s : Shared) (H : Hp) (C : Addr) (cl : List (Str × Addr)) (fp : List Addr), PG (X.blk s H scope (compEnvC scope cl C X.env) fp) tg1 (t1.T k.K)) (ht1 : ∀ (s : Shared) (H : Hp) (C : Addr) (cl : List (Str × Addr)) (fp : List Addr), PTs (X.blk s H scope (compEnvC scope cl C X.env) fp) ifs1 (LT k WF tt1))
    (he : ∀ (s : Shared) (H : Hp) (C : Addr) (cl : List (Str × Addr)) (fp : List Addr), PE (X.blk s H scope (compEnvC scope cl C X.env) fp) elt (LE k WF te)) (hs : ∀ x, foldedSetIterable iter X.env x = pure x := by intro _; rfl) (hs1 : ∀ env x, foldedSetIterable iter1 env x = pure x := by intro _ _; rfl) :
    PS X (.Assign [.Name y py] (.ListComp elt [⟨tg, iter, ifs, 0⟩, ⟨tg1, iter1, ifs1, 0⟩] scope pos) spos) (LS k W (sAsg (mLc2 ow mi t.M tt mi1 t1.M tt1 te (own.map (·.2)) vs1) (gN i))) :=
  (ps_setLc2 hc hN hy hyl hsw hi ok hv hg ht hi1 hg1 ht1 he hs hs1).cq fun _ _ _ h => le_lc2 hv0 hv1 (ls_asg2 (t := .nm i) h)
end
/-! ### xs[i] += e -/
def rGetL : V → V → Hp → VK → Prop := fun o i H Q => ∃ p xs n v, o = .ref p ∧ i = .int n ∧ H p = some (.lst xs) ∧ 0 ≤ n ∧ xs[n.toNat]? = some v ∧ Q v H
theorem pget_L : PGet X rGetL := by
  intro pins s σ H o i ov iv Q I ro ri h
  obtain ⟨p, xs, n, v, rfl, rfl, hp, h0, hx, q⟩ := h
  cases ro
  obtain ⟨t, rfl⟩ := ri
  obtain ⟨its, r, pl, hz⟩ := I.list (Or.inl (Or.inl hp))
  obtain ⟨w, ew, rw'⟩ := r.get hx
  have hl := r.length
  have hn := line63
  have hlt : n.toNat < xs.length := (List.getElem?_eq_some_iff.mp hx).1
  exact wpAny_getItem_list pl.isList h0 (by omega) (by simpa using ew) ⟨v, H, I, rw', q⟩
theorem ls_augL {o : Int → Int → Int} {mo mi me : ME} (h : LS k W (sAugL o mo mi me) E σ H) : tAugS (LE k W mo) (LE k W mi) (LE k W me) rGetL (ipI o) rSetL E σ H := by
  obtain ⟨A, F, C, s, h⟩ := h
  refine ⟨A, F, C, s, (AftS.bnd (rel := RepD k) s h).mono fun dl C1 A1 H1 l p1 st1 rl h1 => ?_⟩
  have s1 := s.step p1 st1
  refine ⟨A1, F, C1, s1, (AftS.bnd (rel := RepD k) s1 h1).mono fun dx C2 A2 H2 x p2 st2 rx h2 => ?_⟩
  have s2 := s1.step p2 st2
  have rl2 := p2.rep _ _ rl
  cases rx with
  | int n =>
    cases ec : cL dl C2 with
    | none => simp only [ec] at h2; exact h2.elim
    | some q =>
      obtain ⟨i, ds⟩ := q
      simp only [ec] at h2
      obtain ⟨rfl, rfl, hi, vs, hv, rvs⟩ := cL_at st2 rl2 ec
      split at h2
      · rename_i h0
        split at h2
        · rename_i a ea
          obtain ⟨v, ev, rv⟩ := rvs.get ea
          cases rv
          refine ⟨A2 i, vs, n, _, rfl, rfl, hv, h0, ev, A2, F, C2, s2, (AftS.bnd (rel := RepD k) s2 h2).mono fun dv C3 A3 H3 w p3 st3 rw3 h3 => ?_⟩
          have s3 := s2.step p3 st3
          cases rw3 with
          | int b =>
            cases ec3 : cL (.cell i) C3 with
            | none => simp only [ec3] at h3; exact h3.elim
            | some q =>
              obtain ⟨i', es⟩ := q
              simp only [ec3] at h3
              obtain ⟨ei, ev3, hi3, ws, hw, rws⟩ := cL_at st3 (p3.rep _ _ rl2) ec3
              cases ei
              cases ej : ixN es.length n with
              | none => simp only [ej] at h3; exact h3.elim
              | some j =>
                simp only [ej] at h3
                cases ew : wr F.fl i (.lst (es.set j (.int (o a b)))) C3 with
                | none => simp only [ew] at h3; exact h3.elim
                | some C4 =>
                  simp only [ew] at h3
                  obtain ⟨q1, q2⟩ := write_L st3 hi3 (rws.set (.int (o a b)) j) ew
                  exact ⟨a, b, rfl, rfl, A3 i, ws, n, j, ev3, rfl, hw, by rw [rws.length]; exact ej, h3 A3 σ _ q1 (s3.step q1 q2)⟩
          | _ => exact h3.elim
        · exact h2.elim
      · exact h2.elim
  | _ => exact h2.elim
theorem ds_augL {o i e : Expr} {op : Operator} {f : Int → Int → Int} {tpos pos : Pos} {mo mi me : ME} (hp : PIp X op (ipI f)) (ho : PE X o (LE k W mo)) (hi : PE X i (LE k W mi)) (he : PE X e (LE k W me))
    (ha : ∀ ov iv new, augStore i ov iv new = (do holding [new, ov, iv] (setItem ov iv new); release [new, ov, iv] []; pure .next) := by intros; rfl) : PS X (.AugAssign (.Subscript o i tpos) op e pos) (LS k W (sAugL f mo mi me)) :=
  (ps_augS ho hi pget_L he hp set_list ha).cq fun _ _ _ h => ls_augL h
/-! ### x in a tuple or list of data -/
end
end CT
set_option maxHeartbeats 4000000
/-! DLD: list(range(..)), sorted(..), dict(..). -/
namespace CT
open PySem L2 PySem.Spec PyProof.Rows
def rngD (a b : Int) : List D := (List.range (b - a).toNat).map fun i => D.int (a + (i : Nat))
theorem rng_rep {k : Cn} {A : Nat → Addr} {C : Store} {H : Hp} (a b : Int) : RepL k A C H (rgV a b) (rngD a b) := by
  unfold rgV rngD
  generalize List.range (b - a).toNat = l
  induction l with
  | nil => exact .nil
  | cons x l ih => exact .cons (.int _) ih
def rgOk (a b : Int) : Bool := decide (-(2 ^ 62) ≤ a) && decide (a < 2 ^ 62) && decide (-(2 ^ 62) ≤ b) && decide (b < 2 ^ 62) && decide ((b - a).toNat ≤ 2 ^ 24)
theorem rgOk_ok {a b : Int} (h : rgOk a b = true) : RgOk a b := by
  simp only [rgOk, Bool.and_eq_true, decide_eq_true_eq] at h
  obtain ⟨⟨⟨⟨h1, h2⟩, h3⟩, h4⟩, h5⟩ := h
  exact ⟨h1, h2, h3, h4, h5⟩
def mLRng1 (own : Bool) (m : ME) : ME := fun F C => bnd (m F C) fun x C1 => match x with
  | .int n => if rgOk 0 n = true then .ok (mkL own (rngD 0 n) C1).1 (mkL own (rngD 0 n) C1).2 else .stuck
  | _ => .stuck
def mLRng2 (own : Bool) (m m2 : ME) : ME := fun F C => bnd (m F C) fun x C1 => bnd (m2 F C1) fun y C2 => match x, y with
  | .int a, .int b => if rgOk a b = true then .ok (mkL own (rngD a b) C2).1 (mkL own (rngD a b) C2).2 else .stuck
  | _, _ => .stuck
section
variable {X : Cx} {k : Cn} {W : WX} {σ : L2.St} {H : Hp} {Q : VK}
theorem le_lrng1 {own : Bool} {m : ME} (h : LE k W (mLRng1 own m) σ H Q) : tLstRg (tRg1 (LE k W m)) σ H Q := by
  obtain ⟨A, F, C, s, h⟩ := h
  refine ⟨A, F, C, s, (Aft.bnd (rel := RepD k) h).mono fun dx C1 A1 H1 x p1 st1 rx h1 => ?_⟩
  cases rx with
  | int n =>
    simp only at h1
    split at h1
    · rename_i ho
      refine ⟨n, rfl, rgOk_ok ho, fun q hq => ?_⟩
      obtain ⟨A2, w1, w2, w3⟩ := fresh_L (own := own) (s.step p1 st1).fl st1 (rng_rep (k := k) (A := A1) (C := C1) (H := H1) 0 n) hq
      exact h1 A2 _ _ w1 w2 w3
    · exact h1.elim
  | _ => exact h1.elim
theorem le_lrng2 {own : Bool} {m m2 : ME} (h : LE k W (mLRng2 own m m2) σ H Q) : tLstRg (tRg2 (LE k W m) (LE k W m2)) σ H Q := by
  obtain ⟨A, F, C, s, h⟩ := h
  refine ⟨A, F, C, s, (Aft.bnd (rel := RepD k) h).mono fun dx C1 A1 H1 x p1 st1 rx h1 => ?_⟩
  have s1 := s.step p1 st1
  refine ⟨A1, F, C1, s1, (Aft.bnd (rel := RepD k) h1).mono fun dy C2 A2 H2 y p2 st2 ry h2 => ?_⟩
  cases rx with
  | int a =>
    cases ry with
    | int b =>
      simp only at h2
      split at h2
      · rename_i ho
        refine ⟨a, b, rfl, rfl, rgOk_ok ho, fun q hq => ?_⟩
        obtain ⟨A3, w1, w2, w3⟩ := fresh_L (own := own) (s1.step p2 st2).fl st2 (rng_rep (k := k) (A := A2) (C := C2) (H := H2) a b) hq
        exact h2 A3 _ _ w1 w2 w3
      · exact h2.elim
    | _ => exact h2.elim
  | _ => exact h2.elim
variable {e a b : Expr} {p pos p' pos' : Pos} {m m2 : ME}
theorem de_lrng1 (own : Bool) (hc : X.calm = true) (hg : Gl X "list") (hm : X.mg "list" = none) (hg' : Gl X "range") (hm' : X.mg "range" = none) (ha : PE X a (LE k W m)) (na : starEach [a] X.env = (false, eval a X.env) :: starEach [] X.env := by rfl)
    (na' : starEach [.Call (.Name "range" p') [a] [] pos'] X.env = (false, eval (.Call (.Name "range" p') [a] [] pos') X.env) :: starEach [] X.env := by rfl) : PE X (.Call (.Name "list" p) [.Call (.Name "range" p') [a] [] pos'] [] pos) (LE k W (mLRng1 own m)) :=
  (pe_listRg hc hg hm (prg_1 hg' hm' ha na) na').cq fun _ _ _ h => le_lrng1 h
theorem de_lrng2 (own : Bool) (hc : X.calm = true) (hg : Gl X "list") (hm : X.mg "list" = none) (hg' : Gl X "range") (hm' : X.mg "range" = none) (ha : PE X a (LE k W m)) (hb : PE X b (LE k W m2)) (na : starEach [a, b] X.env = (false, eval a X.env) :: starEach [b] X.env := by rfl)
    (nb : starEach [b] X.env = (false, eval b X.env) :: starEach [] X.env := by rfl) (hp : (backTo pos' (starEach [b] X.env)).any (·.1) = false := by rfl)
    (na' : starEach [.Call (.Name "range" p') [a, b] [] pos'] X.env = (false, eval (.Call (.Name "range" p') [a, b] [] pos') X.env) :: starEach [] X.env := by rfl) : PE X (.Call (.Name "list" p) [.Call (.Name "range" p') [a, b] [] pos'] [] pos) (LE k W (mLRng2 own m m2)) :=
  (pe_listRg hc hg hm (prg_2 hg' hm' ha hb na nb hp) na').cq fun _ _ _ h => le_lrng2 h
end
/-! ### sorted -/
end CT
set_option maxHeartbeats 4000000
/-! DLE: sorted and dict(d) over data. -/
namespace CT
open PySem L2 PySem.Spec PyProof.Rows
section
variable {X : Cx} {k : Cn} {W : WX} {σ : L2.St} {H : Hp} {Q : VK} {A : Nat → Addr} {C : Store}
theorem tup_nl (st : StOk k A C H) {b : Addr} {vs : List V} (h : H b = some (.tup vs)) : ¬ Live A C b := by
  rintro ⟨i, c, hc, rfl⟩
  have := st.at_ i c hc
  cases c with
  | lst ds => obtain ⟨ws, e, _⟩ := this; rw [h] at e; cases e
  | dT ks ds => obtain ⟨ws, e, _⟩ := this; rw [h] at e; cases e
  | ins c ds => obtain ⟨dx, ws, e, _⟩ := this; rw [h] at e; cases e
end
/-! ### dict(d), keys that are tuples -/
end CT
set_option maxHeartbeats 4000000
/-! DLF: dict(d) over data; enumerate. -/
namespace CT
open PySem L2 PySem.Spec PyProof.Rows
/-! ### a list of unlike numbers -/
def BT.look (x : Nat) : BT → Bool
  | .lf => false
  | .nd l y r => bif Nat.blt x y then l.look x else bif Nat.blt y x then r.look x else true
theorem nodup_map_on {α β : Type} {f : α → β} : ∀ {l : List α}, l.Nodup → (∀ x ∈ l, ∀ y ∈ l, f x = f y → x = y) → (l.map f).Nodup
  | [], _, _ => List.nodup_nil
  | x :: l, h, i => by
    obtain ⟨h1, h2⟩ := List.nodup_cons.mp h
    refine List.nodup_cons.mpr ⟨fun hm => ?_, nodup_map_on h2 fun a ha b hb => i a (List.mem_cons_of_mem _ ha) b (List.mem_cons_of_mem _ hb)⟩
    obtain ⟨y, hy, e⟩ := List.mem_map.mp hm
    have := i y (List.mem_cons_of_mem _ hy) x (List.mem_cons_self ..) e
    exact h1 (this ▸ hy)
/-! ### enumerate(tuple) -/
section
variable {prog : Program} {w : World} {A : Around} {E : Value → Shared → Prop} {s : Shared}
theorem meets_enum1 {v : Value} {o : Obj} {H : Heap → Prop} (B : Begins v o H) :
    Meets (Builtin.«enumerate.__new__» ⟨[.type "enumerate", v], []⟩) (fun _ R s => H s.heap ∧
      R (.ok (.ret (.ref (s.heap.push o).objs.size))) { s with heap := (s.heap.push o).push { cls := .type "enumerate", data := .fields #[.none, .bool false, .ref s.heap.objs.size, rawInt 0, .none, .none] } }) :=
  .of_wp fun prog w A R s h => by
    obtain ⟨hp, g, d, tk, os⟩ := s; obtain ⟨h1, h⟩ := h
    have hsub := sub_enumerate
    have q1 : ∀ {A' : Around} {E : Value → Shared → Prop} {Q : Value → Shared → Prop}, Q (.ref hp.objs.size) ⟨hp.push o, g, d, tk, os⟩ → wpAny (model prog w) A' (pyIter v) Q E ⟨hp, g, d, tk, os⟩ :=
      fun q => B.iter prog w _ _ ⟨hp, g, d, tk, os⟩ _ h1 q
    wp_walk using q1
    refine wpAny_stack_any fun st => wpAny_pure ?_
    split
    · rename_i c _ _ _ _ _
      cases (c == Value.type "enumerate")
      · wp_walk using q1
        exact ⟨_, rfl, h⟩
      · wp_walk using q1
        exact ⟨_, rfl, h⟩
    · wp_walk using q1
      exact ⟨_, rfl, h⟩
theorem call_enum1 {v : Value} {o : Obj} {H : Heap → Prop} {Q : Value → Shared → Prop} (B : Begins v o H) (h1 : H s.heap)
    (h : ∀ h', IsEnum h' (s.heap.objs.size + 1) s.heap.objs.size 0 .none → h'.get? s.heap.objs.size = some o → (∀ b o, s.heap.get? b = some o → h'.get? b = some o) → Q (.ref (s.heap.objs.size + 1)) { s with heap := h' }) :
    wpAny (model prog w) A (call (.type "enumerate") [v]) Q E s := by
  refine callType_new F.called_enumerate (by decide) (F.typeCall_enumerate_1 _) (F.newCall_enumerate_1 _) (fun obj => F.args_object_init_2 obj _) F.entry_enumerate_new (meets_enum1 B) ⟨h1, ?_⟩
  have hz : (s.heap.push o).objs.size = s.heap.objs.size + 1 := Heap.size_push ..
  show _ ∧ _
  rw [hz]
  have he : IsEnum ((s.heap.push o).push { cls := .type "enumerate", data := .fields #[.none, .bool false, .ref s.heap.objs.size, rawInt 0, .none, .none] }) (s.heap.objs.size + 1) s.heap.objs.size 0 .none := by
    have := Heap.get?_push_size (s.heap.push o) (o := { cls := .type "enumerate", data := .fields #[.none, .bool false, .ref s.heap.objs.size, rawInt 0, .none, .none] }) rfl
    rw [hz] at this; exact this
  exact ⟨⟨_, he, rfl⟩, h _ he (Heap.get?_push_of_some _ (Heap.get?_push_size _ B.free)) fun b o x => Heap.get?_push_of_some _ (Heap.get?_push_of_some _ x)⟩
end
def IteT (K : PySem.W.Frag) (a : Addr) : It :=
  ⟨fun i H => ∃ (xs : List V) (x : V), SqT K H a xs ∧ xs[i]? = some x, fun i H v H' => ∃ T x, v = .ref T ∧ H T = none ∧ H' = upd H T (.tup [.int (i : Nat), x]) ∧ ∀ xs, SqT K H a xs → xs[i]? = some x, fun i H => ∃ xs : List V, SqT K H a xs ∧ xs.length ≤ i⟩
theorem enumT_end {prog : Program} {w : World} {A : Around} {E : Value → Shared → Prop} {s : Shared} {e it t : Addr} {i : Nat} {c : Int} {items : Array Value} {old : Value} {Q : Option Value → Shared → Prop} (hh : A.handled = none)
    (he : IsEnum s.heap e it c old) (hit : s.heap.IsTupleIter it t i) (ht : s.heap.IsTuple t items) (hx : items[i]? = none) (hQ : ∀ h', Heap.ExtBut it s.heap h' → Q none { s with heap := h' }) : wpAny (model prog w) A (pyNext (.ref e)) Q E s := by
  have hT : s.TypeIs (.ref e) "enumerate" := ⟨_, he, rfl⟩
  unfold pyNext
  refine wpAny_bind (wpAny_attempt (wpAny_callSpecial?_slot (name := Str.ofString "__next__") hT F.slot_enumerate_next
    (wpAny_call_entry F.slot_enumerate_next hT F.entry_enumerate_next ?_ (F.args_enumerate_next_1 _))))
  show wpAny _ _ (field (.ref e) 2 >>= _) _ _ _
  refine wpAny_bind (wpAny_field he rfl (x := .ref it) rfl ?_)
  refine wpAny_bind (wpAny_nextOf_tuple_end (show A.in1.handled = none from hh) hit ht hx fun h' x he' hx' => ?_)
  obtain ⟨o, ho, hc⟩ := hx'
  refine wpAny_bind (wpAny_isInstance (T := "StopIteration") (b := true) ⟨o, ho, hc⟩ isSubtype_stop ?_)
  exact wpAny_pure (hQ _ he')
theorem turn_enumT {P : Program} {w : World} {K : PySem.W.Frag} {elts : List Expr} {kk : Nat} {tpos : Pos} (a e it : Addr) :
    Turn P w K (.Tuple elts kk tpos) (IteT K a) [e, it] e (fun i h => (∃ old, IsEnum h e it ((i : Nat) : Int) old) ∧ h.IsTupleIter it a i ∧ e ≠ it ∧ a ≠ it ∧ a ≠ e) where
  mem := by simp
  obj := fun i h st b hb => by
    obtain ⟨⟨old, he⟩, ⟨o, ho, hc, hd⟩, _⟩ := st
    have e' : b = e ∨ b = it := by simpa using hb
    rcases e' with z | z
    · rw [z]; exact ⟨_, he, fun v q => nomatch q⟩
    · rw [z]; exact ⟨o, ho, fun v q => by rw [hd] at q; cases q⟩
  keep := fun i h h' st k => let ⟨⟨old, he⟩, hi, hne⟩ := st; ⟨⟨old, k e (by simp) _ he⟩, hi.at fun o q => k it (by simp) o q, hne⟩
  item := by
    intro X hP hw hK hc i pins s σ H E I hf st hg
    subst hP hw hK
    obtain ⟨⟨old, he⟩, hit, hne, hai, hae⟩ := st
    obtain ⟨xs, x, hq, hx⟩ := hg
    obtain ⟨its, rv, p, hz⟩ := I.tuple hq
    have hlt : i < its.toArray.size := by
      have h1 := rv.length
      have h2 := (List.getElem?_eq_some_iff.mp hx).1
      simp
      omega
    have hel : e < s.heap.objs.size := Heap.lt_size he
    have hil : it < s.heap.objs.size := by obtain ⟨_, q, _⟩ := hit; exact Heap.lt_size q
    have D := Draws.tuple (prog := X.prog) (w := X.w) (A := X.A.in1) (I.ok.hd hc) it a hai its.toArray
    refine wpAny_pyNext_enum_itemD D he ⟨hit, p⟩ hlt hne (by simp; exact ⟨hne, fun z => hae z.symm⟩) fun u h' tk hu ho hit' hT hsz hk => ?_
    have hu' : its[i]? = some u := by simpa using hu
    obtain ⟨u2, hu2, ru⟩ := rv.get hx
    have e2 : u2 = u := by
      rw [hu'] at hu2
      exact (Option.some.inj hu2).symm
    subst e2
    refine ⟨_, rfl, wpAny_letOwnedTupleGo_enum (s := { s with heap := h', toks := tk + 1 }) ho fun h'' he' sb => ?_⟩
    have hT2 : h''.get? s.heap.objs.size = some { cls := .type "tuple", data := .seq #[.int i tk, u2] } := (sb.2 _ (Nat.ne_of_gt hel)).trans hT
    have new : ObjOk X.prog X.w (upd H s.heap.objs.size (.tup [.int (i : Nat), x])) h'' s.heap.objs.size (.tup [.int (i : Nat), x]) :=
      ⟨by show 2 ≤ sizeLine; decide, [.int i tk, u2], .cons ⟨_, rfl⟩ (.cons ru .nil), ⟨_, hT2, rfl, _, rfl⟩⟩
    have I1 : Inv X pins σ (upd H s.heap.objs.size (.tup [.int (i : Nat), x])) { s with heap := h'', toks := tk + 1 } :=
      I.turnedNew (ch := [e, it]) (fun b ob hb q => (sb.2 b (fun z => hb (by simp [z]))).trans (hk b ob (fun z => hb (by simp [z])) (fun z => hb (by simp [z])) q)) hf (Nat.le_refl _) new
    refine ⟨.ref s.heap.objs.size, _, I1, rfl, ⟨_, x, rfl, I.hok.fresh (Nat.le_refl _), rfl, fun ys hy => by rw [I.tuple_inj hy hq]; exact hx⟩, ⟨⟨u2, ?_⟩, hit'.1.at fun o q => (sb.2 it (Ne.symm hne)).trans q, hne, hai, hae⟩, fun b hb => ?_⟩
    · have e1 : ((i + 1 : Nat) : Int) = (i : Int) + 1 := by omega
      rw [e1]; exact he'
    · have hb' : b < s.heap.objs.size := by
        have e' : b = e ∨ b = it := by simpa using hb
        rcases e' with z | z
        · rw [z]; exact hel
        · rw [z]; exact hil
      rw [upd_ne (Nat.ne_of_lt hb')]
      exact (hf b hb).1
  done := by
    intro X hP hw hK hc i pins s σ H E I hf st hg
    subst hP hw hK
    obtain ⟨⟨old, he⟩, hit, hne, hai, hae⟩ := st
    obtain ⟨xs, hq, hx⟩ := hg
    obtain ⟨its, rv, p, hz⟩ := I.tuple hq
    obtain ⟨f0, f1, f2, f3, f4, f5⟩ := hf it (by simp)
    have hl := rv.length
    exact enumT_end (I.ok.hd hc) he hit p (by simp; omega) fun h' eb => ⟨rfl, I.turned (t' := s.toks) (fun b o hb q => eb b o hb q) f0 f1 f3 f4 f5⟩
  self := fun A i s Q E st h => let ⟨⟨_, he⟩, _⟩ := st; wpAny_pyIter_enum he h
def iEnumA (K : PySem.W.Frag) (ta : TA) : TI := fun σ H R => ta σ H fun vs H1 => ∃ a, vs = [.ref a] ∧ (((∃ xs, SqL K H1 a xs) ∧ R (Ite K a) H1) ∨ ((∃ xs, SqT K H1 a xs) ∧ R (IteT K a) H1))
theorem pi_enumA {X : Cx} {e : Expr} {ta : TA} {p pos tpos : Pos} {elts : List Expr} {kk : Nat} (hg : Gl X "enumerate") (hm : X.mg "enumerate" = none) (ha : PA X [e] ta) (hs : starEach [e] X.env = [(false, eval e X.env)] := by rfl) :
    PI X (.Tuple elts kk tpos) (.Call (.Name "enumerate" p) [e] [] pos) (iEnumA X.K ta) := by
  refine ⟨fun pins s σ H R I h => ?_⟩
  refine Call_ (ld_blt I hg hm boot_enumerate (PyProof.Rows.callWith_type1 (thn (ha.run pos pins s σ H _ I h) fun us s1 ⟨vs, H1, I1, r1, q1⟩ => ?_) hs rfl))
  have fp2 : ∀ b ∈ [s1.heap.objs.size + 1, s1.heap.objs.size], FpOk X pins H1 b := fun b hb => by
    have e' : b = s1.heap.objs.size + 1 ∨ b = s1.heap.objs.size := by simpa using hb
    have hle : s1.heap.objs.size ≤ b := by omega
    exact I1.fpOk hle (I1.hok.fresh hle)
  obtain ⟨a, ex, ⟨⟨xs, hq⟩, q⟩ | ⟨⟨xs, hq⟩, q⟩⟩ := q1
  · subst ex
    obtain ⟨u, rfl, ru⟩ := vals1 r1
    obtain rfl : u = Value.ref a := ru
    obtain ⟨its, rv, p', hz⟩ := I1.list hq
    refine call_enumerate_list p'.isList fun h' he hit hsz hk => wpAny_pyIter_enum he ?_
    exact ⟨s1.heap.objs.size + 1, [s1.heap.objs.size + 1, s1.heap.objs.size], _, _, H1, rfl, I1.kept (t' := s1.toks) hk, turn_enum a (s1.heap.objs.size + 1) s1.heap.objs.size, ⟨⟨.none, he⟩, hit, Nat.succ_ne_self _⟩, fp2, q⟩
  · subst ex
    obtain ⟨u, rfl, ru⟩ := vals1 r1
    obtain rfl : u = Value.ref a := ru
    obtain ⟨its, rv, p', hz⟩ := I1.tuple hq
    refine call_enum1 (begins_tuple a its.toArray) p' fun h' he hit hk => wpAny_pyIter_enum he ?_
    have hlt : a < s1.heap.objs.size := by obtain ⟨o, ho, _⟩ := p'; exact Heap.lt_size ho
    exact ⟨s1.heap.objs.size + 1, [s1.heap.objs.size + 1, s1.heap.objs.size], _, _, H1, rfl, I1.kept (t' := s1.toks) hk, turn_enumT a (s1.heap.objs.size + 1) s1.heap.objs.size, ⟨⟨.none, he⟩, ⟨_, hit, rfl, rfl⟩, Nat.succ_ne_self _, Nat.ne_of_lt hlt, Nat.ne_of_lt (Nat.lt_succ_of_lt hlt)⟩, fp2, q⟩
section
variable {X : Cx} {k : Cn} {W : WX} {σ : L2.St} {H : Hp}
theorem pr_L {fl : Nat} {A : Nat → Addr} {C : Store} {a : Addr} {it : ItD} (ok : ItOk k fl (Itl k.K a) it A C H) : ItOk k fl (Ite k.K a) (prI it) A C H := fun A' C' H' p st' => by
  obtain ⟨o1, o2⟩ := ok A' C' H' p st'
  refine ⟨fun j d hj e => ?_, fun hf => o2 hf⟩
  simp only [prI, Option.map_eq_some_iff] at e
  obtain ⟨x, ex, rfl⟩ := e
  obtain ⟨⟨xs, v, hq, hv⟩, h2⟩ := o1 j x hj ex
  refine ⟨⟨xs, v, hq, hv⟩, fun y H'' ⟨T, z, ey, hT, eH, hz⟩ => ?_⟩
  subst ey eH
  have ez : z = v := Option.some.inj ((hz xs hq).symm.trans hv)
  subst ez
  obtain ⟨A3, p3, st3, r3⟩ := h2 z H' ⟨rfl, fun ys hy => hz ys hy⟩
  have q : Kp A3 C' H' A3 C' (upd H' T (.tup [.int (j : Nat), z])) := kp_new hT
  refine ⟨A3, p3.trans q.stp0, st3.new hT, ?_⟩
  have st4 := st3.new (o := .tup [.int (j : Nat), z]) hT
  exact .tup (tup_nl st4 upd_same) upd_same (.cons (.int _) (.cons (r3.kp q) .nil))
theorem pr_T {fl : Nat} {A : Nat → Addr} {C : Store} {a : Addr} {it : ItD} (ok : ItOk k fl (Itt k.K a) it A C H) : ItOk k fl (IteT k.K a) (prI it) A C H := fun A' C' H' p st' => by
  obtain ⟨o1, o2⟩ := ok A' C' H' p st'
  refine ⟨fun j d hj e => ?_, fun hf => o2 hf⟩
  simp only [prI, Option.map_eq_some_iff] at e
  obtain ⟨x, ex, rfl⟩ := e
  obtain ⟨⟨xs, v, hq, hv⟩, h2⟩ := o1 j x hj ex
  refine ⟨⟨xs, v, hq, hv⟩, fun y H'' ⟨T, z, ey, hT, eH, hz⟩ => ?_⟩
  subst ey eH
  have ez : z = v := Option.some.inj ((hz xs hq).symm.trans hv)
  subst ez
  obtain ⟨A3, p3, st3, r3⟩ := h2 z H' ⟨rfl, fun ys hy => hz ys hy⟩
  have q : Kp A3 C' H' A3 C' (upd H' T (.tup [.int (j : Nat), z])) := kp_new hT
  refine ⟨A3, p3.trans q.stp0, st3.new hT, ?_⟩
  have st4 := st3.new (o := .tup [.int (j : Nat), z]) hT
  exact .tup (tup_nl st4 upd_same) upd_same (.cons (.int _) (.cons (r3.kp q) .nil))
theorem li_enum {m : ME} {R : It → Hp → Prop} (h : LI k W (mEnum m) σ H R) : iEnumA k.K (tCons (LE k W m) tNil) σ H R := by
  obtain ⟨A, F, C, s, h⟩ := h
  refine ⟨A, F, C, s, (Aft.bnd (rel := RepD k) h).mono fun d C1 A1 H1 v p st r h1 => ?_⟩
  have tup : ∀ xs, vT d = some xs → itS d C1 = some (itC xs) → ∃ a, [v] = [.ref a] ∧ (((∃ xs, SqL k.K H1 a xs) ∧ R (Ite k.K a) H1) ∨ ((∃ xs, SqT k.K H1 a xs) ∧ R (IteT k.K a) H1)) := fun xs e ei => by
    rw [ei] at h1
    obtain ⟨a, rfl, hs, ok⟩ := itC_T (fl := F.fl) r e
    exact ⟨a, rfl, .inr ⟨hs, h1 A1 H1 _ Stp.refl st (pr_T ok)⟩⟩
  show ∃ a, [v] = [.ref a] ∧ _
  cases d with
  | tup xs => exact tup xs rfl rfl
  | kt xs => exact tup xs rfl rfl
  | lst xs =>
    cases r with
    | lst l hh rv => exact ⟨_, rfl, .inl ⟨⟨_, .inl (.inl hh)⟩, h1 A1 H1 _ Stp.refl st (pr_L (itC_L (.lst l hh rv)))⟩⟩
  | cell i =>
    cases r with
    | cell hi =>
      simp only [itS] at h1
      split at h1
      · rename_i it e
        split at e
        · rename_i ys ec
          cases e
          obtain ⟨vs, hv, rv⟩ := st.at_ i _ ec
          exact ⟨_, rfl, .inl ⟨⟨vs, .inl (.inl hv)⟩, h1 A1 H1 _ Stp.refl st (pr_L (itV_L (.cell hi)))⟩⟩
        · cases e
      · exact h1.elim
  | _ => exact h1.elim
theorem di_enum {e : Expr} {p pos tpos : Pos} {elts : List Expr} {kk : Nat} {m : ME} (hg : Gl X "enumerate") (hm : X.mg "enumerate" = none) (hK : X.K = k.K) (he : PE X e (LE k W m)) (hs : starEach [e] X.env = [(false, eval e X.env)] := by rfl) :
    PI X (.Tuple elts kk tpos) (.Call (.Name "enumerate" p) [e] [] pos) (LI k W (mEnum m)) := (pi_enumA hg hm (pa_cons he pa_nil (by rw [hs]; rfl)) hs).cq fun _ _ _ h => by
  rw [hK]
  exact li_enum h
end
end CT
set_option maxHeartbeats 4000000
/-! DLG: what the head tells (defs by addresses, checks), the law's end for data. -/
namespace CT
open PySem L2 PySem.Spec PyProof.Rows
/-! ### defs, by where they stand -/
theorem DefX.funD {K : PySem.W.Frag} {d : DefX} (e : fnX K (d.adr K) = d.val) (c : d.ok K = true) : ∃ fd, FunD K d.name d.qual d.params d.body d.scope (d.dfl K) [] (d.adr K) fd := by
  obtain ⟨kp, c2⟩ := He.ba c
  unfold fnX at e
  split at c2
  · rename_i oc od fd osl q
    rw [q] at e
    obtain ⟨k1, k2⟩ := He.ba c2
    cases fd
    simp only [DefX.val, Option.some.injEq, Prod.mk.injEq] at e
    obtain ⟨h1, h2, h3, h4, h5, h6, h7, h8⟩ := e
    subst h1 h2 h3 h4 h5 h6 h7 h8
    exact ⟨_, ⟨_, _, _, _, _, _, _, _, _, _, rfl, q, k1, He.dflB_ok k2, .inl rfl⟩, kp⟩
  · cases c2
/-! ### the head's look -/
section
variable {fs : List (PySem.W.Frag → Bool)} {fn : List DefX} {K : PySem.W.Frag}
theorem SaysX.fact (c : SaysX fs fn K) (i : Nat) {f : PySem.W.Frag → Bool} (h : fs[i]? = some f := by rfl) : f K = true :=
  List.all_eq_true.mp (He.ba (show ((fs.all fun f => f K) && fn.all fun d => d.ok K) = true from congrArg (fun z : AlX => z.1) c)).1 f (List.mem_of_getElem? h)
theorem SaysX.def_ (c : SaysX fs fn K) (i : Nat) {d : DefX} (h : fn[i]? = some d := by rfl) : ∃ fd, FunD K d.name d.qual d.params d.body d.scope (d.dfl K) [] (d.adr K) fd := by
  have c2 := (He.ba (show ((fs.all fun f => f K) && fn.all fun d => d.ok K) = true from congrArg (fun z : AlX => z.1) c)).2
  have e2 : (fn.map fun d => fnX K (d.adr K))[i]? = (fn.map DefX.val)[i]? := congrArg (fun z : AlX => z.2[i]?) c
  rw [List.getElem?_map, List.getElem?_map, h] at e2
  exact DefX.funD (Option.some.inj e2) (List.all_eq_true.mp c2 d (List.mem_of_getElem? h))
end
/-! ### checks -/
section
variable {K : PySem.W.Frag}
theorem prB_ok {x f : Str} (h : prB x f K = true) : PropOf K (He.ga K x) f (prA K (He.ga K x) f) (prG K (He.ga K x) f) := by
  obtain ⟨h1, h⟩ := He.ba h
  obtain ⟨h2, h⟩ := He.ba h
  obtain ⟨h3, h4⟩ := He.ba h
  refine ⟨He.eqO_ok h1, He.eqO_ok h2, of_decide_eq_true h3, ?_⟩
  split at h4
  · rename_i g rest e
    refine ⟨rest, ?_⟩
    unfold prG
    rw [e]
  · cases h4
theorem mem_allBt (b : Bt) : b ∈ allBt := by cases b <;> simp [allBt]
theorem insB_ok {C : Addr} (h : insB C K = true) : C8.InsC K C := by
  obtain ⟨h1, h⟩ := He.ba h
  obtain ⟨h2, h⟩ := He.ba h
  obtain ⟨h3, h⟩ := He.ba h
  obtain ⟨h4, h⟩ := He.ba h
  obtain ⟨h5, h⟩ := He.ba h
  obtain ⟨h6, h⟩ := He.ba h
  obtain ⟨h7, h⟩ := He.ba h
  obtain ⟨h8, h9⟩ := He.ba h
  exact ⟨⟨h1, h2, h3, He.eqO_ok h4⟩, He.eqO_ok h5, He.eqO_ok h6, of_decide_eq_true h7, of_decide_eq_true h8, of_decide_eq_true h9⟩
theorem isaB_ok {cl : PySem.W.Frag → Nat → Addr} {kn : List Nat} {k : Cn} (hK : k.K = K) (hc : k.cl = cl K) (h : isaB cl kn K = true) : IsaOk k kn := by
  obtain ⟨h1, h⟩ := He.ba h
  obtain ⟨h2, h3⟩ := He.ba h
  rw [List.all_eq_true] at h1 h2 h3
  refine ⟨fun c hm => ?_, fun c hm c' hm' => ?_, fun c hm b => ?_, fun c hm b => ?_⟩
  · rw [hK, hc]
    exact insB_ok (h1 c hm)
  · rw [hK, hc]
    exact of_decide_eq_true (List.all_eq_true.mp (h2 c hm) c' hm')
  · rw [hK, hc]
    exact of_decide_eq_true (He.ba (List.all_eq_true.mp (h3 c hm) b (mem_allBt b))).1
  · rw [hK, hc]
    exact of_decide_eq_true (He.ba (List.all_eq_true.mp (h3 c hm) b (mem_allBt b))).2
theorem ktB_ok {a : PySem.W.Frag → Addr} (h : ktB a K = true) : KT K (a K) [] := by
  unfold ktB at h
  split at h
  · rename_i c od its n osl q
    obtain ⟨h1, h2⟩ := He.ba h
    have e : its.toList = [] := List.length_eq_zero_iff.mp (by rw [Array.length_toList]; exact of_decide_eq_true h2)
    refine ⟨_, its, n, q, congrArg Value.type (of_decide_eq_true h1), rfl, by rw [of_decide_eq_true h2]; exact Nat.zero_le _, ?_⟩
    rw [e]
    exact .nil
  · cases h
end
/-! ### the end -/
def scrD (ns : List Int) : D := .scr (ns.map D.int)
theorem rep_scr {k : Cn} {H : Hp} {a : Addr} {ns : List Int} (hO : Only H) (h : SqL k.K H a (ns.map V.int)) : Rep k (fun _ => 0) [] H (.ref a) (scrD ns) := by
  have nl : ¬ Live (fun _ => 0) [] a := by
    rintro ⟨i, c, e, _⟩
    simp at e
  rcases h with h | ⟨o, its, n, h1, h2, h3, h4, h5, h6⟩
  · rcases h with h | ⟨o, h⟩
    · rcases hO a with z | ⟨o, xs, z⟩
      · rw [h] at z; cases z
      · rw [h] at z; cases z
    · exact .scr nl h RepL.ints
  · exact .kscr ⟨o, its, n, h1, h2, h3, h4, h5, h6⟩ RepL.ints
theorem law_core {P : Program} {w : World} {K : PySem.W.Frag} {mg mb : Str → Option Value} {fa a : Addr} {sp : Sp} {s₁ : Shared} {vs : List Value} {ns : List Int}
    (KX : K.In s₁.heap) (hns : s₁.heap.Ns mainGlobals mg) (hb : s₁.heap.Ns builtinsNs mb) (hbb : ∀ x : Str, x ≠ "__name__" → mb x = bootBuiltins x) (hlim : s₁.heap.NoLimit) (hg : s₁.gens = #[])
    (ha : s₁.heap.get? a = some { cls := .type "list", data := .seq vs.toArray }) (hi : IntsAre vs ns) (hl : ns.length ≤ sizeLine)
    (key : ∀ base : Heap, K.In base → base.Ns mainGlobals mg → ∀ (s : Shared) (H : Hp), Env0 P w K mg base callerA [] s H → sp [.ref a] H (fun v _ => v = .bl true) (fun _ _ _ => False) →
      codeAny (model P w) callerA (.call (.ref fa) ⟨[.ref a], []⟩) (CR (L2N.CX P w) [] P w H s (fun v _ => v = .bl true) fun _ _ _ => False) s)
    (hsp : ∀ H : Hp, Only H → SqL K H a (ns.map V.int) → sp [.ref a] H (fun v _ => v = .bl true) fun _ _ _ => False) :
    codeAny (model P w) callerA (.call (.ref fa) ⟨[.ref a], []⟩) (fun r s' => r = .ok (.ret (.bool true)) ∧ OldK s₁.heap s'.heap ∧ s'.os = s₁.os ∧ AllBare s'.gens) s₁ := by
  have rv := vals_ints hi
  have lenV := hi.length
  -- from an abstract heap in which nothing but the script may be tracked
  have core : ∀ H : Hp, Only H → SqL K H a (ns.map V.int) → HOk P w H s₁.heap → (∀ b, H b ≠ none → b = a) → (H a ≠ none → K.lookup a = none) →
      codeAny (model P w) callerA (.call (.ref fa) ⟨[.ref a], []⟩) (fun r s' => r = .ok (.ret (.bool true)) ∧ OldK s₁.heap s'.heap ∧ s'.os = s₁.os ∧ AllBare s'.gens) s₁ := by
    intro H hO hS hok hA hK
    have base_of : ∀ {b : Addr} {o : Obj}, s₁.heap.get? b = some o → H b = none → (hidT s₁.heap H).get? b = some o := fun e n => hidT_get e n
    have noA : ∀ {b : Addr} {o : Obj} {es : Array DictEntry} {ep : Nat}, s₁.heap.get? b = some o → o.data = .dict es ep → H b = none := fun {b o es ep} e d => by
      cases q : H b with
      | none => rfl
      | some u =>
        have e' : b = a := hA b (by rw [q]; simp)
        subst e'
        rw [ha] at e; cases e
        have d' : Data.seq vs.toArray _ = Data.dict es ep := d
        cases d'
    have nsK : ∀ {b : Addr} {m : Str → Option Value}, s₁.heap.Ns b m → (hidT s₁.heap H).Ns b m := fun {b m} ⟨o, es, ep, e, d, r⟩ => ⟨o, es, ep, base_of e (noA e d), d, r⟩
    have hKb : K.In (hidT s₁.heap H) := fun b o e => base_of (KX b o e) (by
      cases q : H b with
      | none => rfl
      | some u =>
        have e' : b = a := hA b (by rw [q]; simp)
        subst e'
        rw [hK (by rw [q]; simp)] at e; cases e)
    have hM : Mod K mg (hidT s₁.heap H) := ⟨hKb, nsK hns, ⟨mb, nsK hb, hbb⟩, let ⟨mc, h1, h2⟩ := hlim; ⟨mc, nsK h1, h2⟩⟩
    have e0 : Env0 P w K mg (hidT s₁.heap H) callerA [] s₁ H := ⟨rfl, hM, fun b o e => of_hidT e, Nat.le_of_eq (hidT_size _ _), trivial, fun b hb => absurd (show b ∈ ([] : List Addr) from hb) (by simp), hok, .of_eq hg⟩
    refine codeAny_mono (key _ hKb (nsK hns) s₁ H e0 (hsp H hO hS)) fun r s' h => ?_
    cases r with
    | error e =>
      obtain ⟨_, _, _, _, _, _, _, _, _, _, _, _, z⟩ := h
      exact z.elim
    | ok fl =>
      cases fl with
      | next => exact False.elim h
      | brk => exact False.elim h
      | cont => exact False.elim h
      | ret u =>
        obtain ⟨v, H', os, bare, un, hok', r', q⟩ := h
        have q' : v = .bl true := q
        subst q'
        obtain rfl : u = Value.bool true := r'
        refine ⟨rfl, OldK.of_keep fun b o e => ?_, os, bare⟩
        cases q : H b with
        | none => exact un.keep b o e q (by intro z; exact absurd (show b ∈ ([] : List Addr) from z) (by simp)) (by simp)
        | some u =>
          rcases hO b with z | ⟨ob, xs, z⟩
          · rw [q] at z; cases z
          · have z2 := un.frzs b ob _ z
            obtain ⟨e1, _⟩ := hok b _ z
            obtain ⟨e2, _⟩ := hok' b _ z2
            rw [e] at e1; cases e1
            exact e2
  cases hk : K.lookup a with
  | some o =>
    -- the script is one of the module's own objects
    have e := KX a o hk
    rw [ha] at e
    cases e
    refine core (fun _ => none) (fun _ => .inl rfl) (.inr ⟨_, vs.toArray, _, hk, rfl, rfl, rfl, by rw [List.size_toArray, lenV]; exact hl, by simpa using rv⟩) (fun b u z => by have z' : (none : Option HO) = some u := z; cases z') (fun b z => absurd rfl z) fun z => absurd rfl z
  | none =>
    refine core (fun b => if b = a then some (.frz { cls := .type "list", data := .seq vs.toArray } (.lst (ns.map V.int))) else none) (fun b => ?_) (.inl (.inr ⟨{ cls := .type "list", data := .seq vs.toArray }, if_pos rfl⟩)) (fun b u z => ?_) (fun b z => ?_) fun _ => hk
    · by_cases hb : b = a
      · exact .inr ⟨_, _, if_pos hb⟩
      · exact .inl (if_neg hb)
    · by_cases hb : b = a
      · have z' := (if_pos hb).symm.trans z
        cases z'
        subst hb
        exact ⟨ha, by rw [List.length_map]; exact hl, vs, _, rv, ha⟩
      · have z' := (if_neg hb).symm.trans z
        cases z'
    · by_cases hb : b = a
      · exact hb
      · exact absurd (if_neg hb) z
end CT
set_option maxHeartbeats 4000000
/-! DLH: a def that hands back a list of its own, to be changed by its caller. -/
namespace CT
open PySem L2 PySem.Spec PyProof.Rows
section
variable {k : Cn} {A A2 : Nat → Addr} {C C2 : Store} {H : Hp} {n : Nat}
structure Fw2 (n : Nat) (A : Nat → Addr) (C : Store) (A2 : Nat → Addr) (C2 : Store) : Prop where
  lv : ∀ a, Live A2 C2 a → Live A C a
  ix : ∀ j, j < n → A2 j = A j
  len : n ≤ C2.length
mutual
theorem Rep.fw2 (q : Fw2 n A C A2 C2) : ∀ {v : V} {d : D}, Rep k A C H v d → CT.cb n d = true → Rep k A2 C2 H v d
  | _, _, .non, _ => .non
  | _, _, .bl b, _ => .bl b
  | _, _, .int i, _ => .int i
  | _, _, .str s, _ => .str s
  | _, _, .lst l h r, z => .lst (fun y => l (q.lv _ y)) h (r.fw2 q (by simpa [CT.cb] using z))
  | _, _, .tup l h r, z => .tup (fun y => l (q.lv _ y)) h (r.fw2 q (by simpa [CT.cb] using z))
  | _, _, .ktup h r, z => .ktup h (r.fw2 q (by simpa [CT.cb] using z))
  | _, _, .scr l h r, z => .scr (fun y => l (q.lv _ y)) h (r.fw2 q (by simpa [CT.cb] using z))
  | _, _, .kscr h r, z => .kscr h (r.fw2 q (by simpa [CT.cb] using z))
  | _, _, .obj l h e r, z => .obj (fun y => l (q.lv _ y)) h e (r.fw2 q (by simpa [CT.cb] using z))
  | _, _, .exn x l h e r, z => .exn x (fun y => l (q.lv _ y)) h e (r.fw2 q (by simpa [CT.cb] using z))
  | _, _, .cls c, _ => .cls c
  | _, _, .dT l h r, z => .dT (fun y => l (q.lv _ y)) h (r.fw2 q (by simpa [CT.cb] using z))
  | _, _, .cell (i := i) hi, z => by
    have hi : i < n := by simpa [CT.cb] using z
    rw [← q.ix i hi]
    exact .cell (Nat.lt_of_lt_of_le hi q.len)
theorem RepL.fw2 (q : Fw2 n A C A2 C2) : ∀ {vs : List V} {ds : List D}, RepL k A C H vs ds → CT.cbL n ds = true → RepL k A2 C2 H vs ds
  | _, _, .nil, _ => .nil
  | _, _, .cons r t, z => by
    simp [CT.cbL] at z
    exact .cons (r.fw2 q z.1) (t.fw2 q z.2)
end
end
def finO (n : Nat) (d : D) (C : Store) : R D := match d with
  | .cell i => if n ≤ i then (match C[i]? with
    | some (some (.lst xs)) => if cbL n xs = true then .ok (.cell n) (C.take n ++ [some (.lst xs)]) else .stuck
    | _ => .stuck) else .stuck
  | _ => .stuck
def mDefO (np ns : Nat) (body : MS) : MF := fun ds C => if ds.length = np then (match body ⟨C.length, ds.map some ++ List.replicate (ns - np) none⟩ C with
    | .rt d C' => finO C.length d C'
    | .xc e _ C' => if cbL C.length e.fs = true then .exc e (C'.take C.length) else .stuck
    | _ => .stuck) else .stuck
theorem mDefO_ar {np ns : Nat} {body : MS} : Ar np (mDefO np ns body) := fun ds C h => by
  unfold mDefO
  rw [if_neg h]
section
variable {k : Cn}
theorem start_sr {np ns : Nat} {N : List Str} {vs : List V} {ds : List D} {H : Hp} {A : Nat → Addr} {C : Store} (hN : N.length = ns) (hv : vs.length = np) (hd : ds.length = np) (hp : np ≤ ns) (st : StOk k A C H) (rl : RepL k A C H vs ds) :
    SR k A ⟨C.length, ds.map some ++ List.replicate (ns - np) none⟩ C (L2.start N vs) H := by
  have sl : (L2.start N vs) = vs.map some ++ List.replicate (ns - np) none := by unfold L2.start; rw [hN, hv]
  refine ⟨st, st.low, Nat.le_refl _, ?_, fun i d e => ?_⟩
  · rw [sl]
    simp [rl.length]
  · rw [sl]
    have e' : (ds.map some ++ List.replicate (ns - np) none)[i]? = some (some d) := e
    by_cases hi : i < ds.length
    · rw [List.getElem?_append_left (by simpa using hi), List.getElem?_map] at e'
      cases ed : ds[i]? with
      | none => rw [ed] at e'; cases e'
      | some d' =>
        rw [ed] at e'
        cases e'
        obtain ⟨v, h1, h2⟩ := rl.get ed
        refine ⟨v, ?_, h2⟩
        rw [List.getElem?_append_left (by rw [List.length_map, rl.length]; exact hi), List.getElem?_map, h1]
        rfl
    · rw [List.getElem?_append_right (by simpa using hi)] at e'
      have := List.getElem?_eq_some_iff.mp e'
      obtain ⟨h1, h2⟩ := this
      rw [List.getElem_replicate] at h2
      cases h2
theorem spDO_body {np ns : Nat} {body : MS} {N : List Str} {vs : List V} {H : Hp} {Q : VK} {E : XK} (hN : N.length = ns) (hp : np ≤ ns) (h : SpD k np (mDefO np ns body) vs H Q E) :
    LS k (fun c d _ H' => E c d H') body { nx := fun _ H' => Q .non H', rt := Q } (L2.start N vs) H := by
  obtain ⟨hv, A, C, ds, st, rl, h⟩ := h
  have hd : ds.length = np := by rw [← rl.length]; exact hv
  unfold mDefO at h
  rw [if_pos hd] at h
  refine ⟨A, _, C, start_sr hN hv hd hp st rl, ?_⟩
  show AftS k _ C.length A C H (body ⟨C.length, ds.map some ++ List.replicate (ns - np) none⟩ C) _
  cases eb : body ⟨C.length, ds.map some ++ List.replicate (ns - np) none⟩ C with
  | nx sl' C' => rw [eb] at h; exact h.elim
  | bk sl' C' => rw [eb] at h; exact h.elim
  | ct sl' C' => rw [eb] at h; exact h.elim
  | stuck => rw [eb] at h; exact h.elim
  | rt d C' =>
    rw [eb] at h
    intro A' H' v p st' r
    simp only at h
    unfold finO at h
    split at h
    · rename_i i
      split at h
      · rename_i hi
        split at h
        · rename_i xs ec
          split at h
          · rename_i hc
            obtain ⟨q1, q2, q3, q4⟩ := cut_stp rfl st st' p
            cases r with
            | cell hi' =>
              obtain ⟨ws, hw, rw'⟩ := st'.at_ i _ ec
              have tl : (C'.take C.length ++ [some (Cell.lst xs)]).length = C.length + 1 := by simp [List.length_take]; omega
              have at_lt : ∀ j, j < C.length → (C'.take C.length ++ [some (Cell.lst xs)])[j]? = C'[j]? := fun j hj => by
                rw [List.getElem?_append_left (by rw [q4]; exact hj), List.getElem?_take_of_lt hj]
              have at_n : (C'.take C.length ++ [some (Cell.lst xs)])[C.length]? = some (some (.lst xs)) := by
                rw [List.getElem?_append_right (by rw [q4]; exact Nat.le_refl _), q4]
                simp
              have ex_lt : ∀ j, j < C.length → ext A' C.length (A' i) j = A' j := fun j hj => if_neg (Nat.ne_of_lt hj)
              have fw : Fw2 C.length A' C' (ext A' C.length (A' i)) (C'.take C.length ++ [some (.lst xs)]) := by
                refine ⟨fun a l => ?_, ex_lt, by rw [tl]; exact Nat.le_succ _⟩
                obtain ⟨j, c, e, z⟩ := l
                have hj : j < C.length + 1 := by rw [← tl]; exact (List.getElem?_eq_some_iff.mp e).1
                by_cases hj' : j < C.length
                · rw [at_lt j hj'] at e
                  rw [ex_lt j hj'] at z
                  exact ⟨j, c, e, z⟩
                · have ej : j = C.length := by omega
                  subst ej
                  rw [ext_at] at z
                  exact ⟨i, _, ec, z⟩
              have low : LowC C.length C' := p.low _ (Nat.le_refl _) (Nat.le_refl _) st.low
              have cellOk : ∀ c a, cbC C.length c = true → CellAt k A' C' H' a c → CellAt k (ext A' C.length (A' i)) (C'.take C.length ++ [some (.lst xs)]) H' a c := fun c a hb hx => by
                cases c with
                | lst ds => obtain ⟨ws, e, r⟩ := hx; exact ⟨ws, e, r.fw2 fw hb⟩
                | dT ks ds => obtain ⟨ws, e, z, r⟩ := hx; exact ⟨ws, e, z, r.fw2 fw hb⟩
                | ins c ds => obtain ⟨dx, ws, e, z, r⟩ := hx; exact ⟨dx, ws, e, z, r.fw2 fw hb⟩
              have st2 : StOk k (ext A' C.length (A' i)) (C'.take C.length ++ [some (.lst xs)]) H' := by
                refine ⟨fun j c e => ?_, fun j j' c c' e e' z => ?_⟩
                · have hj : j < C.length + 1 := by rw [← tl]; exact (List.getElem?_eq_some_iff.mp e).1
                  by_cases hj' : j < C.length
                  · rw [at_lt j hj'] at e
                    rw [ex_lt j hj']
                    exact cellOk c _ (low j c hj' e) (st'.at_ j c e)
                  · have ej : j = C.length := by omega
                    subst ej
                    rw [at_n] at e
                    cases e
                    rw [ext_at]
                    exact cellOk _ _ hc (st'.at_ i _ ec)
                · have hj : j < C.length + 1 := by rw [← tl]; exact (List.getElem?_eq_some_iff.mp e).1
                  have hk : j' < C.length + 1 := by rw [← tl]; exact (List.getElem?_eq_some_iff.mp e').1
                  by_cases hj' : j < C.length
                  · by_cases hk' : j' < C.length
                    · rw [at_lt j hj'] at e
                      rw [at_lt j' hk'] at e'
                      rw [ex_lt j hj', ex_lt j' hk'] at z
                      exact st'.inj j j' c c' e e' z
                    · have ek : j' = C.length := by omega
                      subst ek
                      rw [at_lt j hj'] at e
                      rw [ex_lt j hj', ext_at] at z
                      have := st'.inj j i c _ e ec z
                      omega
                  · have ej : j = C.length := by omega
                    subst ej
                    by_cases hk' : j' < C.length
                    · rw [at_lt j' hk'] at e'
                      rw [ex_lt j' hk', ext_at] at z
                      have := st'.inj j' i c' _ e' ec z.symm
                      omega
                    · omega
              refine h (ext A' C.length (A' i)) H' (.ref (A' i)) ⟨fun v d r => (p.rep v d r).fw2 fw r.cb, by rw [tl]; exact Nat.le_succ _, fun f h1 h2 l => low_app (by rw [q4]; exact h1) (low_take (p.low f h1 h2 l)), p.frz⟩ st2 ?_
              have r9 : Rep k (ext A' C.length (A' i)) (C'.take C.length ++ [some (.lst xs)]) H' (.ref (ext A' C.length (A' i) C.length)) (.cell C.length) := .cell (by rw [tl]; exact Nat.lt_succ_self _)
              rw [ext_at] at r9
              exact r9
          · exact h.elim
        · exact h.elim
      · exact h.elim
    · exact h.elim
  | xc e sl' C' =>
    rw [eb] at h
    intro A' σ' H' dd ws p s' x l r
    simp only at h
    split at h
    · rename_i hc
      obtain ⟨q1, q2, q3, q4⟩ := cut_stp rfl st s'.st p
      exact h A' H' dd ws q1 q2 x l (r.cut q3 hc)
    · exact h.elim
variable {P : Program} {w : World} {mg : Str → Option Value} {base : Heap} {x qual : Str} {params : Arguments} {body : List Stmt} {scope : Scope} {dvs : List V} {kws : List (Str × V)} {f : Addr} {fd : FuncData}
theorem fn_okO {N ps : List Str} {lev : Nat} {m : MS} (F : FunD k.K x qual params body scope dvs kws f fd) (S : FnScope N ps scope) (hp : ps.length ≤ N.length)
    (hb : ∀ (cdv : Value) (A : Around) (outer : List Env) (s : Shared) (H : Hp) (E : XK), RoomG lev (A.deeper (envOfC qual scope s.heap.objs.size f cdv)) → PSs (cxOf (L2N.CX P w) P w k.K mg base N qual scope f cdv A outer s H E) body (LS k (fun c d _ H' => E c d H') m)) :
    FnG P w k.K mg base (lev + 1) f fd ps (SpD k ps.length (mDefO ps.length N.length m)) := by
  obtain ⟨oc, od, dV, kV, doc, pm, an, cdv, ct, osl, rfl, lk, hcd, _, _⟩ := F.ex
  exact fn_ofG lk hcd S (fun vs H Q E h => h.1) fun A outer s H vs Q E hr h => ⟨_, hb cdv A outer s H E hr, spDO_body rfl hp h⟩
end
end CT
set_option maxHeartbeats 4000000
/-! DLI: comparisons as tests. -/
namespace CT
open PySem L2 PySem.Spec PyProof.Rows
section
variable {X : Cx} {k : Cn} {W : WX} {a b c : Expr} {pos : Pos} {op op' : CmpOp} {r r' : R2} {o o' : O2} {ma mb mc : ME}
theorem dt_cmp (hR : OpR X (compareOp op) r) (hD : OpD k r o) (ha : PE X a (LE k W ma)) (hb : PE X b (LE k W mb)) (hm : behindInMarks op b = false) : PT X (.Compare a [op] [b] pos) (LT k W (mTst (mOp o ma mb))) :=
  (pt_cmpR hR ha hb hm).cq fun _ _ _ h => le_op hD (lt_val h)
end
/-! ### == and !=, scalars or data -/
theorem d_eqA {k : Cn} : OpD k (fun x y H Q => rEq x y H Q ∨ rEqD k.K x y H Q) (oEqA false) := by
  intro fl A C H x y dx dy d C' Q hf hl st rx ry e q
  unfold oEqA at e
  split at e
  · cases rx; cases ry; cases e
    refine .inl ⟨rfl, ?_⟩
    have := q A H _ Stp.refl st (.bl _)
    simpa using this
  · cases rx; cases ry; cases e
    refine .inl ⟨rfl, ?_⟩
    have := q A H _ Stp.refl st (.bl _)
    simpa using this
  · exact .inr (d_eqD fl A C H x y _ _ d C' Q hf hl st rx ry e q)
theorem d_neA {k : Cn} : OpD k (fun x y H Q => rNe x y H Q ∨ rNeD k.K x y H Q) (oEqA true) := by
  intro fl A C H x y dx dy d C' Q hf hl st rx ry e q
  unfold oEqA at e
  split at e
  · cases rx; cases ry; cases e
    refine .inl ⟨rfl, ?_⟩
    have := q A H _ Stp.refl st (.bl _)
    simpa using this
  · cases rx; cases ry; cases e
    refine .inl ⟨rfl, ?_⟩
    have := q A H _ Stp.refl st (.bl _)
    simpa using this
  · exact .inr (d_neD fl A C H x y _ _ d C' Q hf hl st rx ry e q)
end CT
set_option maxHeartbeats 4000000
/-! DLJ: operators that a class defines: ==, !=, +, in, []. -/
namespace CT
open PySem L2 PySem.Spec PyProof.Rows
/-- an operation that may call a def of the program's own -/
def OpX (X : Cx) (f : Value → Value → Sem Value) (r : L2.St → R2) : Prop :=
  ∀ (pins : List (Addr × Obj)) (s : Shared) (σ : L2.St) (H : Hp) (x y : V) (v u : Value) (Q : VK), Inv X pins σ H s → RelV x v → RelV y u → r σ x y H Q → wpAny (model X.prog X.w) X.A (f v u) (EP X pins σ Q) X.xe s
def tOpX (r : L2.St → R2) (ta tb : TE) : TE := fun σ H Q => ta σ H fun x H1 => tb σ H1 fun y H2 => r σ x y H2 Q
/-- the left is an instance of the class at C, the right of a type that does not go first -/
def rO2 (K : PySem.W.Frag) (C : Addr) (sp : Sp) (E : L2.St → XK) (post : VK → VK) : L2.St → R2 := fun σ x y H Q => ∃ a dx fs T, x = .ref a ∧ H a = some (.ins C dx fs) ∧ TyX K H y T ∧ PySem.W.notFirst K C T = true ∧ sp [x, y] H (post Q) (E σ)
section
variable {X : Cx} {k : Cn} {W : WX} {σ : L2.St} {H : Hp} {Q : VK} {lev : Nat} {C g a dx : Addr} {fs : List (Str × V)} {f : Str} {fd : FuncData} {ps : List Str} {np : Nat} {m : MF} {e o b : Expr} {pos : Pos} {ta tb : TE} {mo me : ME} {E : L2.St → XK} {sp : Sp} {r : L2.St → R2}
theorem pe_opX {op : Operator} (ho : OpX X (binaryOp op) r) (ha : PE X e ta) (hb : PE X b tb) : PE X (.BinOp e op b pos) (tOpX r ta tb) :=
  ⟨fun pins s σ H Q I h => wpAny_BinOp (binT ha hb I h fun v u s2 x y H2 I2 rx ry q => ho pins s2 σ H2 x y v u Q I2 rx ry q)⟩
theorem pe_cmpX {op : CmpOp} (ho : OpX X (compareOp op) r) (ha : PE X e ta) (hb : PE X b tb) (hm : behindInMarks op b = false) : PE X (.Compare e [op] [b] pos) (tOpX r ta tb) :=
  ⟨fun pins s σ H Q I h => wpAny_Compare1 (binT ha hb I h fun v u s2 x y H2 I2 rx ry q => ho pins s2 σ H2 x y v u Q I2 rx ry q) hm⟩
theorem pt_cmpX {op : CmpOp} (ho : OpX X (compareOp op) r) (ha : PE X e ta) (hb : PE X b tb) (hm : behindInMarks op b = false) : PT X (.Compare e [op] [b] pos) (tTest (tOpX r ta tb)) := by
  refine ⟨fun pins s σ H Q I h => ?_⟩
  refine wpAny_isTrue_Compare1 (thn (ha.run pins s σ H _ I h) fun v s1 z1 => ?_) hm
  obtain ⟨x, H1, I1, r1, q1⟩ := z1
  refine thn (hb.run pins s1 σ H1 _ I1 q1) fun u s2 z2 => ?_
  obtain ⟨y, H2, I2, r2, q2⟩ := z2
  refine thn (ho pins s2 σ H2 x y v u _ I2 r1 r2 q2) fun c s3 z3 => ?_
  obtain ⟨z, H3, I3, r3, kk, ez, q3⟩ := z3
  subst ez
  cases r3
  exact wpAny_truthy_bool ⟨H3, I3, q3⟩
/-- the type of a value, looked up -/
theorem ty_look {M : Model} {pins : List (Addr × Obj)} {s : Shared} {x : V} {u T : Value} (I : Inv X pins σ H s) (rx : RelV x u) (t : TyX X.K H x T) : PySem.W.Looks M s.heap (typeOf u) T := by
  obtain ⟨P, kx, hp, _⟩ := kit_of I rx t
  exact kx.ty M _ I.kIn hp
theorem op_cmpO {op : CmpOp} (hop : ∀ a b, compareOp op a b = richCompare op a b) (hs : PySem.W.findIn X.K (.ref C) (cmpInfo op).2.1 = some (some (.ref g))) (hf : PySem.W.isFn X.K (.ref g) = true) (F : FnG X.prog X.w X.K X.mg X.base lev g fd ps sp) (hr : RoomG lev X.A) (hb : Binds X.K fd ps []) (hx : ∀ σ, PassesAt (L2N.CX X.prog X.w) X σ (E σ)) :
    OpX X (compareOp op) (rO2 X.K C sp E id) := by
  intro pins s σ H x y v u Q I rx ry h
  obtain ⟨a, dx, fs, T, rfl, ha, hT, hn, q⟩ := h
  cases (show v = Value.ref a from rx)
  obtain ⟨mA, O, _, _, _, _⟩ := ins_get I.hok ha
  obtain ⟨od, J, _⟩ := O.look
  obtain ⟨mm, hF⟩ := I.fr
  rw [hop]
  refine PySem.W.cmp_K (op := op) (tb := T) hr.room.units0 hF I.ok.mod.kin J (ty_look I ry hT) hn hs hf ?_
  refine wpAny_mono (run_fnG (us := [.ref a, u]) (vs := [.ref a, y]) (dvs := []) (ds := []) F hr hb .nil (hx σ) I (.cons rfl (.cons ry .nil)) q) (fun z' s' hz => ?_) fun _ _ z => z
  obtain ⟨z, H', I', rz, qz⟩ := hz
  exact SlX.cmpback rz ⟨z, H', I', rz, qz⟩
theorem op_addO {op : Operator} (hc : PySem.W.selfFirst X.K C = true) (hs : PySem.W.findIn X.K (.ref C) (PySem.dunder op.info.2) = some (some (.ref g))) (hf : PySem.W.isFn X.K (.ref g) = true) (F : FnG X.prog X.w X.K X.mg X.base lev g fd ps sp) (hr : RoomG lev X.A) (hb : Binds X.K fd ps []) (hx : ∀ σ, PassesAt (L2N.CX X.prog X.w) X σ (E σ)) :
    OpX X (binaryOp op) fun σ x y H Q => ∃ a dx fs b dy gs, x = .ref a ∧ y = .ref b ∧ H a = some (.ins C dx fs) ∧ H b = some (.ins C dy gs) ∧ sp [x, y] H Q (E σ) := by
  intro pins s σ H x y v u Q I rx ry h
  obtain ⟨a, dx, fs, b, dy, gs, rfl, rfl, ha, hb', q⟩ := h
  cases (show v = Value.ref a from rx)
  cases (show u = Value.ref b from ry)
  obtain ⟨mA, O, _, _, _, _⟩ := ins_get I.hok ha
  obtain ⟨od, J, _⟩ := O.look
  obtain ⟨mA', O', _, _, _, _⟩ := ins_get I.hok hb'
  obtain ⟨od', J', _⟩ := O'.look
  obtain ⟨mm, hF⟩ := I.fr
  refine PySem.W.binop_K hF I.ok.mod.kin J J'.type hc hs hf ?_
  refine wpAny_mono (run_fnG (us := [.ref a, .ref b]) (vs := [.ref a, .ref b]) (dvs := []) (ds := []) F hr hb .nil (hx σ) I (.cons rfl (.cons rfl .nil)) q) (fun z' s' hz => ?_) fun _ _ z => z
  obtain ⟨z, H', I', rz, qz⟩ := hz
  exact SlX.cmpback rz ⟨z, H', I', rz, qz⟩
end
end CT
set_option maxHeartbeats 4000000
/-! DLK: != by an own __eq__; x[i] by an own __getitem__. -/
namespace CT
open PySem L2 PySem.Spec PyProof.Rows
section
variable {M : Model} {prog : Program} {w : World} {A : Around} {E : Value → Shared → Prop} {s : Shared} {K : PySem.W.Frag} {x C g : Addr} {ox : Obj} {od : Option Obj} {b : Value}
theorem ne_body {Q : Fin → Shared → Prop} (hu : A.units < cLine) (KX : K.In s.heap) (J : PySem.W.InstAt s.heap x ox C od) (hs : PySem.W.findIn K (.ref C) "__eq__" = some (some (.ref g))) (hf : PySem.W.isFn K (.ref g) = true)
    (h : wpAny M A (call (.ref g) [.ref x, b]) (fun v s' => ∃ t, v = .bool t ∧ Q (.done (.ret (.bool (!t)))) s') E s) : wpAny M A (Builtin.«object.__ne__» ⟨[.ref x, b], []⟩) Q E s := by
  unfold Builtin.«object.__ne__»
  repeat (first | with_reducible refine PySem.W.ifBound_K (name := "__eq__") (args := [b]) KX J hs hf (wpAny_mono h (fun v s' hz => ?_) fun _ _ z => z) | with_reducible refine wpAny_cRoomFor hu ?_ | wp_step)
  obtain ⟨t, rfl, q⟩ := hz
  repeat (first | with_reducible refine wpAny_truthy_bool ?_ | wp_step)
  exact q
theorem ne_bound {Q : Option Value → Shared → Prop} (KX : K.In s.heap) (J : PySem.W.InstAt s.heap x ox C od) (hs : PySem.W.findIn K (.ref C) "__ne__" = some (some (.builtin "object.__ne__")))
    (h : wpAny M A (call (.builtin "object.__ne__") [.ref x, b]) (fun v => Q (some v)) E s) : wpAny M A (callSpecialIfBound? (.ref x) "__ne__" [b]) Q E s := by
  have last : wpAny M A (call (.builtin "object.__ne__") ([.ref x] ++ [b]) >>= fun v => pure (some v)) Q E s := wpAny_bind (wpAny_mono h (fun v s' z => wpAny_pure z) fun _ _ z => z)
  simp only [callSpecialIfBound?, bindSpecialIfBound?]
  refine wpAny_holding (wpAny_bind (wpAny_bind (wpAny_bind (J.type.here ((PySem.W.looks_findIn KX hs).here (wpAny_bind (wpAny_askSetting (wpAny_ite ?_))))))))
  split
  · exact wpAny_bind (wpAny_of_eq (PySem.F.cmp_object.ne.bind _) (wpAny_pure last))
  · exact wpAny_tryCatch (wpAny_bind (wpAny_of_eq (PySem.F.cmp_object.ne.bind _) (wpAny_pure last)))
end
section
variable {X : Cx} {k : Cn} {W : WX} {σ : L2.St} {H : Hp} {Q : VK} {lev : Nat} {C g a dx : Addr} {fs : List (Str × V)} {f : Str} {fd : FuncData} {ps : List Str} {np : Nat} {m : MF} {e o b : Expr} {pos : Pos} {ta tb : TE} {mo me : ME} {E : L2.St → XK} {sp : Sp} {r : L2.St → R2}
/-- the def runs inside a builtin -/
theorem run_in1 {pins : List (Addr × Obj)} {σ : L2.St} {H : Hp} {s : Shared} {Q : VK} {us : List Value} {vs : List V} {Ex : XK} (F : FnG X.prog X.w X.K X.mg X.base lev g fd ps sp) (hr : RoomG (lev + 1) X.A) (hb : Binds X.K fd ps []) (hx : PassesAt (L2N.CX X.prog X.w) X σ Ex)
    (I : Inv X pins σ H s) (r : Vals vs us) (h : sp vs H Q Ex) : wpAny (model X.prog X.w) X.A.in1 (call (.ref g) us) (EP X pins σ Q) X.xe s := by
  have hl : (us ++ []).length = ps.length := by
    rw [List.append_nil, ← r.length]
    exact F.len _ _ _ _ h
  have B := hb s us I.kIn hl
  rw [List.append_nil] at B
  refine wpAny_call (codeAny_mono (F.run X.A.in1 X.stack s H ⟨us, []⟩ us vs Q Ex hr.in1 I.env0.in1 B r h) fun r s' hq => ?_)
  cases r with
  | error er => exact hx pins H s er s' I hq
  | ok fl =>
    cases fl with
    | ret u => exact I.after hq
    | next => exact False.elim hq
    | brk => exact False.elim hq
    | cont => exact False.elim hq
theorem op_neO (hs : PySem.W.findIn X.K (.ref C) "__eq__" = some (some (.ref g))) (hf : PySem.W.isFn X.K (.ref g) = true) (hne : PySem.W.findIn X.K (.ref C) "__ne__" = some (some (.builtin "object.__ne__"))) (hm : PySem.W.mroIn X.K C (.type "object") = some true)
    (F : FnG X.prog X.w X.K X.mg X.base lev g fd ps sp) (hr : RoomG (lev + 1) X.A) (hb : Binds X.K fd ps []) (hx : ∀ σ, PassesAt (L2N.CX X.prog X.w) X σ (E σ)) :
    OpX X (compareOp .NotEq) (rO2 X.K C sp E fun Q z H' => ∃ t, z = .bl t ∧ Q (.bl (!t)) H') := by
  intro pins s σ H x y v u Q I rx ry h
  obtain ⟨a, dx, fs, T, rfl, ha, hT, hn, q⟩ := h
  cases (show v = Value.ref a from rx)
  obtain ⟨mA, O, _, _, _, _⟩ := ins_get I.hok ha
  obtain ⟨od, J, _⟩ := O.look
  have hu := hr.room.units0
  have one : wpAny (model X.prog X.w) X.A (tryCompare (.ref a) "__ne__" u) (fun r s' => ∃ z, r = some z ∧ EP X pins σ Q z s') X.xe s := by
    unfold tryCompare
    refine wpAny_bind (ne_bound I.kIn J hne ?_)
    refine wpAny_call (codeAny_call_builtin PySem.F.cmp_object.ne.plain PySem.F.cmpEntry_ne (PySem.W.check_slot PySem.F.cmpKind_ne PySem.F.cmpSplit_ne (J.type.andThen (PySem.W.looks_mroIn I.kIn hm)) (PySem.F.cmpArgs_ne _ _) ?_))
    refine ne_body hr.in1.room.units0 I.kIn J hs hf (wpAny_mono (run_in1 (us := [.ref a, u]) (vs := [.ref a, y]) F hr hb (hx σ) I (.cons rfl (.cons ry .nil)) q) (fun z' s' hz => ?_) fun _ _ z => z)
    obtain ⟨z, H', I', rz, t, ez, qz⟩ := hz
    subst ez
    cases rz
    exact ⟨t, rfl, wpAny_pure ⟨_, rfl, .bl (!t), H', I', rfl, qz⟩⟩
  show wpAny (model X.prog X.w) X.A (richCompare .NotEq (.ref a) u) (EP X pins σ Q) X.xe s
  unfold richCompare
  simp only [oneThing_ref]
  refine wpAny_holding (wpAny_bind (wpAny_cRoomFor hu ?_))
  refine wpAny_bind (J.type.here (wpAny_bind ((ty_look I ry hT).here ?_)))
  have fin : ∀ (z : Option Value) (s' : Shared), (∃ t, z = some t ∧ EP X pins σ Q t s') → ∃ t, z = some t ∧ EP X pins σ Q t s' := fun _ _ z => z
  split
  · rename_i nq
    have e : PySem.W.subIn X.K T (.ref C) = some false := by
      rcases Bool.or_eq_true_iff.mp hn with e | e
      · rw [beq_iff_eq.mp e] at nq
        simp at nq
      · exact beq_iff_eq.mp e
    refine wpAny_bind ((PySem.W.looks_subIn I.kIn e).here ?_)
    simp only [Bool.false_eq_true, if_false]
    refine wpAny_bind (wpAny_mono one (fun r s' z => ?_) fun _ _ e => e)
    obtain ⟨t, rfl, hq⟩ := z
    exact wpAny_pure hq
  · refine wpAny_bind (wpAny_pure ?_)
    simp only [Bool.false_eq_true, if_false]
    refine wpAny_bind (wpAny_mono one (fun r s' z => ?_) fun _ _ e => e)
    obtain ⟨t, rfl, hq⟩ := z
    exact wpAny_pure hq
end
end CT
set_option maxHeartbeats 4000000
/-! DLL: own operators over data. -/
namespace CT
open PySem L2 PySem.Spec PyProof.Rows
/-! ### the terms -/
def isC (c : Nat) (x : D) (C : Store) : Bool := match vO x C with
  | some (c', _) => decide (c' = c)
  | none => false
/-- x[y] by __getitem__ -/
def mIxO (c : Nat) (m : MF) (mo me : ME) : ME := fun F C => bnd (mo F C) fun x C1 => bnd (me F C1) fun y C2 => if isC c x C2 = true then m [x, y] C2 else .stuck
/-- x + y, both of the class -/
def mBinO (c : Nat) (m : MF) (mo me : ME) : ME := fun F C => bnd (mo F C) fun x C1 => bnd (me F C1) fun y C2 => if (isC c x C2 && isC c y C2) = true then m [x, y] C2 else .stuck
def okT (c : Nat) : Option Cc → Bool
  | some (.ty _) => true
  | some (.own c') => decide (c' = c)
  | none => false
def negB (neg : Bool) (r : R D) : R D := bnd r fun z C3 => match z with
  | .bl t => .ok (.bl (if neg = true then !t else t)) C3
  | _ => .stuck
/-- x == y, x != y by __eq__ -/
def mEqO (neg : Bool) (c : Nat) (m : MF) (mo me : ME) : ME := fun F C => bnd (mo F C) fun x C1 => bnd (me F C1) fun y C2 => if (isC c x C2 && okT c (tyD y C2)) = true then negB neg (m [x, y] C2) else .stuck
/-! ### readings -/
def tIxO (C : Addr) (sp : Sp) (E : L2.St → XK) (ta tb : TE) : TE := fun σ H Q => ta σ H fun x H1 => tb σ H1 fun y H2 => ∃ a dx fs, x = .ref a ∧ H2 a = some (.ins C dx fs) ∧ sp [x, y] H2 Q (E σ)
section
variable {X : Cx} {k : Cn} {W : WX} {σ : L2.St} {H : Hp} {Q : VK} {lev : Nat} {C g a dx : Addr} {fs : List (Str × V)} {f : Str} {fd : FuncData} {ps : List Str} {np : Nat} {m : MF} {e o b : Expr} {pos : Pos} {ta tb : TE} {mo me : ME} {E : L2.St → XK} {sp : Sp} {r : L2.St → R2}
theorem pe_ixO (hs : PySem.W.findIn X.K (.ref C) "__getitem__" = some (some (.ref g))) (hfn : PySem.W.fnIn X.K g = true) (hf : PySem.W.isFn X.K (.ref g) = true) (F : FnG X.prog X.w X.K X.mg X.base lev g fd ps sp) (hr : RoomG (lev + 1) X.A) (hb : Binds X.K fd ps []) (hx : ∀ σ, PassesAt (L2N.CX X.prog X.w) X σ (E σ))
    (ha : PE X o ta) (hbb : PE X b tb) (hsl : ∀ v i, subscripted b true v i = runValue (.builtin "lifetime.subscript" ⟨[v, i], []⟩)) : PE X (.Subscript o b pos) (tIxO C sp E ta tb) := by
  refine ⟨fun pins s σ H Q I h => ?_⟩
  refine Subscript_ (binT ha hbb I h fun v u s2 x y H2 I2 rx ry q => ?_)
  obtain ⟨a, dx, fs, ex, hi, q⟩ := q
  subst ex
  cases (show v = Value.ref a from rx)
  obtain ⟨mA, O, _, _, _, _⟩ := ins_get I2.hok hi
  obtain ⟨od, J, _⟩ := O.look
  obtain ⟨mm, hF⟩ := I2.fr
  exact PySem.W.sub_K hF I2.ok.mod.kin J hs hfn hf (run_in1 (us := [.ref a, u]) (vs := [.ref a, y]) F hr hb (hx σ) I2 (.cons rfl (.cons ry .nil)) q) (hsl _ _)
theorem isC_at {c : Nat} {A : Nat → Addr} {S : Store} {x : D} {v : V} (st : StOk k A S H) (r : Rep k A S H v x) (h : isC c x S = true) : ∃ a dx gs, v = .ref a ∧ H a = some (.ins (k.cl c) dx gs) := by
  unfold isC at h
  split at h
  · rename_i c' fs' ev
    obtain rfl := of_decide_eq_true h
    obtain ⟨a, dx', vs, rfl, ha, _, _⟩ := vO_at st r ev
    exact ⟨a, dx', _, rfl, ha⟩
  · cases h
/-- what the written part says of a class with an own __eq__ -/
structure EqOk (K : PySem.W.Frag) (C g : Addr) : Prop where
  eq : PySem.W.findIn K (.ref C) "__eq__" = some (some (.ref g))
  fn : PySem.W.isFn K (.ref g) = true
  ne : PySem.W.findIn K (.ref C) "__ne__" = some (some (.builtin "object.__ne__"))
  mr : PySem.W.mroIn K C (.type "object") = some true
  sub : ∀ bt : Bt, PySem.W.subIn K (.type bt.name) (.ref C) = some false
  ic : C8.InsC K C
theorem ty_at {kn : List Nat} {c : Nat} {A : Nat → Addr} {S : Store} {y : D} {v : V} (st : StOk k A S H) (r : Rep k A S H v y) (hg : EqOk k.K (k.cl c) g) (h : okT c (tyD y S) = true) : ∃ T, TyX k.K H v T ∧ PySem.W.notFirst k.K (k.cl c) T = true := by
  have bt : ∀ t : Bt, PySem.W.notFirst k.K (k.cl c) (.type t.name) = true := fun t => by
    unfold PySem.W.notFirst
    rw [hg.sub t]
    simp
  have ow : PySem.W.notFirst k.K (k.cl c) (.ref (k.cl c)) = true := by simp [PySem.W.notFirst]
  have I := hg.ic
  cases r with
  | non => exact ⟨_, .base .non, bt .none⟩
  | bl b => exact ⟨_, .base (.bl b), bt .bool⟩
  | int i => exact ⟨_, .base (.int i), bt .int⟩
  | str s => exact ⟨_, .base (.str s), bt .str⟩
  | lst l hh rv => exact ⟨_, .base (.lst hh), bt .list⟩
  | tup l hh rv => exact ⟨_, .base (.tup hh), bt .tuple⟩
  | ktup hh rv =>
    obtain ⟨o, its, n, h1, h2, _⟩ := hh
    exact ⟨_, .kTuple h1 h2, bt .tuple⟩
  | scr l hh rv => cases h
  | kscr hh rv => cases h
  | exn x l hh z rv => cases h
  | cls c => cases h
  | obj l hh z rv =>
    obtain rfl := of_decide_eq_true h
    exact ⟨_, .base (.ins hh I.cl I.ha I.hn I.htk I.hm), ow⟩
  | @dT a kvs ds l hh rv =>
    cases kvs with
    | nil =>
      rcases hh with hh | hh
      · exact ⟨_, .base (.dT hh), bt .dict⟩
      · exact absurd rfl hh.1
    | cons p t => cases h
  | @cell i hi =>
    cases ec : S[i]? with
    | none => simp only [tyD, ec, okT] at h; cases h
    | some oc =>
      cases oc with
      | none => simp only [tyD, ec, okT] at h; cases h
      | some cc =>
        cases cc with
        | lst xs =>
          obtain ⟨vs, hv, _⟩ := st.at_ i _ ec
          exact ⟨_, .base (.lst hv), bt .list⟩
        | dT ks xs =>
          obtain ⟨vs, hv, _⟩ := st.at_ i _ ec
          exact ⟨_, .base (.dT hv), bt .dict⟩
        | ins c' xs =>
          obtain ⟨dx, vs, hv, _⟩ := st.at_ i _ ec
          simp only [tyD, ec, okT] at h
          obtain rfl := of_decide_eq_true h
          exact ⟨_, .base (.ins hv I.cl I.ha I.hn I.htk I.hm), ow⟩
theorem le_ixO {c : Nat} (ar : Ar np m) (h : LE k W (mIxO c m mo me) σ H Q) : tIxO (k.cl c) (SpD k np m) (WE W) (LE k W mo) (LE k W me) σ H Q := by
  obtain ⟨A, F, C, s, h⟩ := h
  refine ⟨A, F, C, s, (Aft.bnd (rel := RepD k) h).mono fun dx C1 A1 H1 v p1 st1 r1 h1 => ?_⟩
  have s1 := s.step p1 st1
  refine ⟨A1, F, C1, s1, (Aft.bnd (rel := RepD k) h1).mono fun dy C2 A2 H2 u p2 st2 r2 h2 => ?_⟩
  have s2 := s1.step p2 st2
  split at h2
  · rename_i hc
    obtain ⟨a, dx', gs, rfl, ha⟩ := isC_at st2 (p2.rep _ _ r1) hc
    exact ⟨a, dx', gs, rfl, ha, sp_of s2.fl ar st2 (.cons (p2.rep _ _ r1) (.cons r2 .nil)) h2⟩
  · exact h2.elim
theorem le_binO {c : Nat} (ar : Ar np m) (h : LE k W (mBinO c m mo me) σ H Q) : tOpX (fun σ x y H Q => ∃ a dx fs b dy gs, x = .ref a ∧ y = .ref b ∧ H a = some (.ins (k.cl c) dx fs) ∧ H b = some (.ins (k.cl c) dy gs) ∧ SpD k np m [x, y] H Q (WE W σ)) (LE k W mo) (LE k W me) σ H Q := by
  obtain ⟨A, F, C, s, h⟩ := h
  refine ⟨A, F, C, s, (Aft.bnd (rel := RepD k) h).mono fun dx C1 A1 H1 v p1 st1 r1 h1 => ?_⟩
  have s1 := s.step p1 st1
  refine ⟨A1, F, C1, s1, (Aft.bnd (rel := RepD k) h1).mono fun dy C2 A2 H2 u p2 st2 r2 h2 => ?_⟩
  have s2 := s1.step p2 st2
  split at h2
  · rename_i hc
    obtain ⟨hc1, hc2⟩ := Bool.and_eq_true_iff.mp hc
    obtain ⟨a, dx', gs, rfl, ha⟩ := isC_at st2 (p2.rep _ _ r1) hc1
    obtain ⟨b, dy', gs', rfl, hb⟩ := isC_at st2 r2 hc2
    exact ⟨a, dx', gs, b, dy', gs', rfl, rfl, ha, hb, sp_of s2.fl ar st2 (.cons (p2.rep _ _ r1) (.cons r2 .nil)) h2⟩
  · exact h2.elim
theorem aft_neg {neg : Bool} {fl : Nat} {A : Nat → Addr} {S : Store} {R : R D} {E' : XK} (h : Aft k fl A S H (RepD k) (negB neg R) (fun _ _ _ H' v => Q v H') E') : Aft k fl A S H (RepD k) R (fun _ _ _ H' v => ∃ t, v = .bl t ∧ Q (.bl (if neg = true then !t else t)) H') E' := by
  refine (Aft.bnd (rel := RepD k) h).mono fun z C3 A3 H3 v p3 st3 r3 h3 => ?_
  cases r3 with
  | bl t => exact ⟨t, rfl, h3 A3 H3 _ Stp.refl st3 (.bl _)⟩
  | _ => exact h3.elim
theorem le_eqO {neg : Bool} {c : Nat} (ar : Ar np m) (hg : EqOk k.K (k.cl c) g) (h : LE k W (mEqO neg c m mo me) σ H Q) : tOpX (rO2 k.K (k.cl c) (SpD k np m) (WE W) fun Q z H' => ∃ t, z = .bl t ∧ Q (.bl (if neg = true then !t else t)) H') (LE k W mo) (LE k W me) σ H Q := by
  obtain ⟨A, F, C, s, h⟩ := h
  refine ⟨A, F, C, s, (Aft.bnd (rel := RepD k) h).mono fun dx C1 A1 H1 v p1 st1 r1 h1 => ?_⟩
  have s1 := s.step p1 st1
  refine ⟨A1, F, C1, s1, (Aft.bnd (rel := RepD k) h1).mono fun dy C2 A2 H2 u p2 st2 r2 h2 => ?_⟩
  have s2 := s1.step p2 st2
  split at h2
  · rename_i hc
    obtain ⟨hc1, hc2⟩ := Bool.and_eq_true_iff.mp hc
    obtain ⟨a, dx', gs, rfl, ha⟩ := isC_at st2 (p2.rep _ _ r1) hc1
    obtain ⟨T, hT, hn⟩ := ty_at (kn := []) st2 r2 hg hc2
    exact ⟨a, dx', gs, T, rfl, ha, hT, hn, sp_of s2.fl ar st2 (.cons (p2.rep _ _ r1) (.cons r2 .nil)) (aft_neg h2)⟩
  · exact h2.elim
/-! ### the rules -/
theorem de_ixO (c : Nat) (tk : Takes X W) (hK : X.K = k.K) (ha : PE X o (LE k W mo)) (hbb : PE X b (LE k W me)) (hs : PySem.W.findIn k.K (.ref (k.cl c)) "__getitem__" = some (some (.ref g))) (hfn : PySem.W.fnIn k.K g = true) (hf : PySem.W.isFn k.K (.ref g) = true) (F : FnG X.prog X.w X.K X.mg X.base lev g fd ps (SpD k np m)) (ar : Ar np m) (hr : RoomG (lev + 1) X.A) (hb : Binds X.K fd ps [])
    (hsl : ∀ v i, subscripted b true v i = runValue (.builtin "lifetime.subscript" ⟨[v, i], []⟩) := by intros; with_unfolding_all rfl) : PE X (.Subscript o b pos) (LE k W (mIxO c m mo me)) :=
  (pe_ixO (by rw [hK]; exact hs) (by rw [hK]; exact hfn) (by rw [hK]; exact hf) F hr hb (fun σ => passAt tk σ) ha hbb hsl).cq fun _ _ _ h => le_ixO ar h
theorem de_binO {op : Operator} (c : Nat) (tk : Takes X W) (hK : X.K = k.K) (ha : PE X o (LE k W mo)) (hbb : PE X b (LE k W me)) (hc : PySem.W.selfFirst k.K (k.cl c) = true) (hs : PySem.W.findIn k.K (.ref (k.cl c)) (PySem.dunder op.info.2) = some (some (.ref g))) (hf : PySem.W.isFn k.K (.ref g) = true)
    (F : FnG X.prog X.w X.K X.mg X.base lev g fd ps (SpD k np m)) (ar : Ar np m) (hr : RoomG lev X.A) (hb : Binds X.K fd ps []) : PE X (.BinOp o op b pos) (LE k W (mBinO c m mo me)) :=
  (pe_opX (op_addO (by rw [hK]; exact hc) (by rw [hK]; exact hs) (by rw [hK]; exact hf) F hr hb fun σ => passAt tk σ) ha hbb).cq fun _ _ _ h => le_binO ar h
theorem op_eqO' (hg : EqOk X.K C g) (F : FnG X.prog X.w X.K X.mg X.base lev g fd ps sp) (hr : RoomG lev X.A) (hb : Binds X.K fd ps []) (hx : ∀ σ, PassesAt (L2N.CX X.prog X.w) X σ (E σ)) : OpX X (compareOp .Eq) (rO2 X.K C sp E fun Q z H' => ∃ t, z = .bl t ∧ Q (.bl (if false = true then !t else t)) H') := by
  intro pins s σ H x y v u Q I rx ry h
  have z := op_cmpO (X := X) (op := .Eq) (fun _ _ => rfl) hg.eq hg.fn F hr hb hx pins s σ H x y v u (fun z H' => ∃ t, z = .bl t ∧ Q (.bl t) H') I rx ry h
  refine wpAny_mono z (fun z' s' hz => ?_) fun _ _ z => z
  obtain ⟨z2, H', I', rz, t, ez, qz⟩ := hz
  subst ez
  exact ⟨.bl t, H', I', rz, qz⟩
theorem de_eqO (c : Nat) (tk : Takes X W) (hK : X.K = k.K) (ha : PE X o (LE k W mo)) (hbb : PE X b (LE k W me)) (hg : EqOk k.K (k.cl c) g) (F : FnG X.prog X.w X.K X.mg X.base lev g fd ps (SpD k np m)) (ar : Ar np m) (hr : RoomG lev X.A) (hb : Binds X.K fd ps []) (hm : behindInMarks .Eq b = false := by rfl) :
    PE X (.Compare o [.Eq] [b] pos) (LE k W (mEqO false c m mo me)) :=
  (pe_cmpX (op_eqO' (by rw [hK]; exact hg) F hr hb fun σ => passAt tk σ) ha hbb hm).cq fun _ _ _ h => by rw [hK]; exact le_eqO (neg := false) ar hg h
theorem dt_neO (c : Nat) (tk : Takes X W) (hK : X.K = k.K) (ha : PE X o (LE k W mo)) (hbb : PE X b (LE k W me)) (hg : EqOk k.K (k.cl c) g) (F : FnG X.prog X.w X.K X.mg X.base lev g fd ps (SpD k np m)) (ar : Ar np m) (hr : RoomG (lev + 1) X.A) (hb : Binds X.K fd ps []) (hm : behindInMarks .NotEq b = false := by rfl) :
    PT X (.Compare o [.NotEq] [b] pos) (LT k W (mTst (mEqO true c m mo me))) :=
  (pt_cmpX (op_neO (by rw [hK]; exact hg.eq) (by rw [hK]; exact hg.fn) (by rw [hK]; exact hg.ne) (by rw [hK]; exact hg.mr) F hr hb fun σ => passAt tk σ) ha hbb hm).cq fun _ _ _ h => by rw [hK]; exact le_eqO (neg := true) ar hg (lt_val h)
end
end CT
set_option maxHeartbeats 4000000
/-! DLM: what the head says of own operators. -/
namespace CT
open PySem L2 PySem.Spec PyProof.Rows
section
variable {K : PySem.W.Frag}
/-- a def that the class has under a name -/
structure DnOk (K : PySem.W.Frag) (C : Addr) (f : Str) (g : Addr) : Prop where
  at_ : PySem.W.findIn K (.ref C) f = some (some (.ref g))
  fn : PySem.W.isFn K (.ref g) = true
  fi : PySem.W.fnIn K g = true
theorem dnB_ok {x f : Str} (h : dnB x f K = true) : DnOk K (He.ga K x) f (He.ma K (He.ga K x) f) := by
  obtain ⟨h1, h⟩ := He.ba h
  obtain ⟨h2, h3⟩ := He.ba h
  exact ⟨He.eqO_ok h1, h2, h3⟩
theorem eqB_ok {x : Str} (h : eqB x K = true) : EqOk K (He.ga K x) (He.ma K (He.ga K x) "__eq__") := by
  obtain ⟨h1, h⟩ := He.ba h
  obtain ⟨h2, h⟩ := He.ba h
  obtain ⟨h3, h⟩ := He.ba h
  obtain ⟨h4, h5⟩ := He.ba h
  have d := dnB_ok h1
  exact ⟨d.at_, d.fn, He.eqO_ok h2, of_decide_eq_true h3, fun b => of_decide_eq_true (List.all_eq_true.mp h4 b (mem_allBt b)), insB_ok h5⟩
theorem sfB_ok {x : Str} (h : sfB x K = true) : PySem.W.selfFirst K (He.ga K x) = true := h
end
end CT
set_option maxHeartbeats 4000000
/-! DLN: t[::-1], xs[::-1], t[lo:hi]. -/
namespace CT
open PySem L2 PySem.Spec PyProof.Rows HT
end CT
set_option maxHeartbeats 4000000
/-! DLO: errors of the program's own: made and raised. -/
namespace CT
open PySem L2 PySem.Spec PyProof.Rows
/-! ### what the head says of an error class -/
theorem oexB_ok {x : Str} {K : PySem.W.Frag} (h : oexB x K = true) : OexC K (He.ga K x) := by
  obtain ⟨h1, h⟩ := He.ba h
  obtain ⟨h2, h⟩ := He.ba h
  obtain ⟨h3, h⟩ := He.ba h
  obtain ⟨h4, h5⟩ := He.ba h
  refine ⟨?_, He.eqO_ok h2, of_decide_eq_true h3, of_decide_eq_true h4, h5⟩
  split at h1
  · rename_i t dd cd sl ho
    obtain ⟨g1, h1⟩ := He.ba h1
    obtain ⟨g2, h1⟩ := He.ba h1
    obtain ⟨g3, h1⟩ := He.ba h1
    split at h1
    · rename_i C' bm k0 k1 k2 k3 n k5 hm hs
      obtain ⟨a1, h1⟩ := He.ba h1
      obtain ⟨a2, a3⟩ := He.ba h1
      have e1 := of_decide_eq_true a1
      have e2 := of_decide_eq_true a2
      have e3 := of_decide_eq_true g1
      obtain ⟨nm, bs, mro, ns, qn, hd, sn, sub, ab, col, del⟩ := cd
      simp only at g2 g3 hm
      have hdel : del = false := by simpa using g3
      have hsl : sl = #[k0, k1, k2, k3, some (.builtin n), k5] := by
        obtain ⟨l⟩ := sl
        simp only at hs
        rw [hs]
      subst e2 e3 hdel hsl g2 hm
      rw [e1] at ho
      exact ⟨nm, qn, ns, bs, bm, sn, sub, ab, col, dd, k0, k1, k2, k3, k5, ho, a3⟩
    · cases h1
  · cases h1
/-- the class has an own __init__ -/
structure XIni (K : PySem.W.Frag) (C fI : Addr) : Prop where
  ox : OexC K C
  at_ : PySem.W.findIn K (.ref C) "__init__" = some (some (.ref fI))
  ty : PySem.W.typeIn K (.ref fI) = some (.type "function")
theorem xiB_ok {x : Str} {K : PySem.W.Frag} (h : xiB x K = true) : XIni K (He.ga K x) (He.ma K (He.ga K x) "__init__") := by
  obtain ⟨h1, h⟩ := He.ba h
  obtain ⟨h2, h3⟩ := He.ba h
  exact ⟨oexB_ok h1, He.eqO_ok h2, of_decide_eq_true h3⟩
/-! ### __init__: one field, two fields -/
def spX1 (C : Addr) (f : Str) : Sp := fun vs H Q _ => ∃ a v, vs = [.ref a, v] ∧ H a = some (exo a C none) ∧ ∀ dx, H dx = none → dx ≠ a → Q .non (upd (upd H dx (exd dx [(f, v)])) a (exo a C (some dx)))
section
variable {P : Program} {w : World} {K : PySem.W.Frag} {mg : Str → Option Value} {base : Heap} {x qual : Str} {params : Arguments} {body : List Stmt} {scope : Scope} {f : Addr} {fd : FuncData} {N : List Str} {C : Addr} {fl gl : Str}
theorem x1_ok {ps : List Str} (F : FunD K x qual params body scope [] [] f fd) (S : FnScope N ps scope) (hp : ps.length = 2) (hN : N.length = 2) (T : OexC K C) (hno : PySem.W.findIn K (.ref C) fl = some none)
    (hb : ∀ (cdv : Value) (A : Around) (outer : List Env) (s : Shared) (H : Hp) (E : XK), PSs (cxOf CX0 P w K mg base N qual scope f cdv A outer s H E) body (tOst K fl (tVar 0) (tVar 1))) : FnOk P w K mg base CX0 1 f fd ps (spX1 C fl) := by
  refine F.ok S (fun vs H Q E h => ?_) (fun cdv A outer s H vs Q E hr h => ⟨_, hb cdv A outer s H E, ?_⟩)
  · obtain ⟨a, v, rfl, _⟩ := h
    rw [hp]
    rfl
  · obtain ⟨a, v, rfl, ha, hq⟩ := h
    have e : L2.start N [.ref a, v] = [some (.ref a), some v] := by
      unfold L2.start
      rw [hN]
      rfl
    rw [e]
    exact ⟨v, rfl, .ref a, rfl, a, C, rfl, T, hno, .inl ⟨ha, fun dx h1 h2 => hq dx h1 h2⟩⟩
end
/-! ### raise C(e, ..) -/
section
variable {X : Cx} {k : Cn} {W : WX} {σ : L2.St} {H : Hp} {E : Ends} {ma : MA} {c : Nat}
theorem hp_end {H1 : Hp} {a dx : Addr} {o o' o'' o3 : HO} (ha : H1 a = none) (hn : dx ≠ a) : upd (del (upd (upd (upd H1 a o) dx o') a o'') a) dx o3 = upd H1 dx o3 := by
  funext b
  by_cases h1 : b = dx
  · subst h1
    rw [upd_same, upd_same]
  · rw [upd_ne h1, upd_ne h1]
    by_cases h2 : b = a
    · subst h2
      rw [del_same, ha]
    · rw [del_ne h2, upd_ne h2, upd_ne h1, upd_ne h2]
theorem ls_raise1 {f : Str} (hf : k.fn c = [f]) (h : LS k W (sRaise c 1 ma) E σ H) : tMkO (k.cl c) (spX1 (k.cl c) f) [] (LA k W ma) σ H (fun cls d H' => W cls d σ H') := by
  obtain ⟨A, F, C, s, h⟩ := h
  refine ⟨A, F, C, s, (AftS.bnd (rel := RepDs k) s h).mono fun ds C1 A1 H1 vs p st r h1 => ?_⟩
  split at h1
  · rename_i hl
    have r' : RepL k A1 C1 H1 vs ds := r
    match ds, vs, r', hl, h1 with
    | [d], [v], r', _, h1 =>
      have s1 := s.step p st
      refine ⟨by simp, fun a ha => ⟨a, v, rfl, upd_same, fun dx hd hn => ⟨rfl, dx, [(f, v)], upd_same, ?_, ?_, ?_⟩⟩⟩
      · rw [upd_ne hn]
        exact upd_same
      · rw [upd_ne hn] at hd
        exact hd
      · rw [upd_ne hn] at hd
        rw [hp_end ha hn]
        have q : Kp A1 C1 H1 A1 C1 (upd H1 dx (.xd [(f, v)])) := kp_new hd
        have st2 := st.new (o := .xd [(f, v)]) hd
        exact h1 A1 σ (upd H1 dx (.xd [(f, v)])) dx [v] q.stp0 (s1.step q.stp0 st2) (by rw [hf]; exact upd_same) (by rw [hf]; rfl) (r'.kp q)
  · exact h1.elim
variable {fI : Addr} {fd : FuncData} {ps : List Str} {x : Str} {e : Expr} {es : List Expr} {p pos pos' : Pos} {lev : Nat}
theorem ds_raise1 (c : Nat) {f : Str} (hc : X.calm = true) (tk : Takes X W) (hK : X.K = k.K) (T : XIni k.K (k.cl c) fI) (hf : k.fn c = [f]) (F1 : FnOk X.prog X.w X.K X.mg X.base CX0 lev fI fd ps (spX1 (k.cl c) f)) (hr : RoomG (lev + 1) X.A) (hb : Binds X.K fd ps [])
    (hg : Gl X x) (hm : X.mg x = some (.ref (k.cl c))) (ha : PA X (e :: es) (LA k W ma)) (hdb : (x == ("__debug__" : Str)) = false := by decide) (he : starEach (e :: es) X.env = (false, eval e X.env) :: starEach es X.env := by rfl) (hpl : (backTo pos (starEach es X.env)).any (·.1) = false := by rfl) :
    PS X (.Raise (some (.Call (.Name x p) (e :: es) [] pos)) none pos') (LS k W (sRaise c 1 ma)) :=
  (ps_raise hc tk (pmk_oex (C := k.cl c) (by rw [hK]; exact T.ox) (by rw [hK]; exact T.at_) (by rw [hK]; exact T.ty) F1 hr.room hb .nil (fun _ _ _ _ _ _ _ h => h.elim) hg hm ha hdb he hpl)).cq fun _ _ _ h => ls_raise1 hf h
end
end CT
set_option maxHeartbeats 4000000
/-! DLP: try: .. except C as n: .. return; the error is held as data. -/
namespace CT
open PySem L2 PySem.Spec PyProof.Rows
/-- k, with the error at a held -/
def Cn.hold (k : Cn) (a : Addr) (c : Nat) (dd : Addr) : Cn := { k with ex := some (a, c, dd) }
section
variable {k : Cn} {A A' : Nat → Addr} {C C' : Store} {H H' : Hp} {a dd : Addr} {c : Nat} {fl : Nat}
mutual
theorem Rep.up (hk : k.ex = none) : ∀ {v : V} {d : D}, Rep k A C H v d → Rep (k.hold a c dd) A C H v d
  | _, _, .non => .non
  | _, _, .bl b => .bl b
  | _, _, .int i => .int i
  | _, _, .str s => .str s
  | _, _, .lst l h r => .lst l h (r.up hk)
  | _, _, .tup l h r => .tup l h (r.up hk)
  | _, _, .ktup h r => .ktup h (r.up hk)
  | _, _, .scr l h r => .scr l h (r.up hk)
  | _, _, .kscr h r => .kscr h (r.up hk)
  | _, _, .obj l h z r => .obj l h z (r.up hk)
  | _, _, .dT l h r => .dT l h (r.up hk)
  | _, _, .cell hi => .cell hi
  | _, _, .cls c => .cls c
  | _, _, .exn x l h z r => by rw [hk] at x; cases x
theorem RepL.up (hk : k.ex = none) : ∀ {vs : List V} {ds : List D}, RepL k A C H vs ds → RepL (k.hold a c dd) A C H vs ds
  | _, _, .nil => .nil
  | _, _, .cons r t => .cons (r.up hk) (t.up hk)
end
mutual
theorem Rep.down : ∀ {v : V} {d : D}, Rep (k.hold a c dd) A C H v d → CT.nx d = true → Rep k A C H v d
  | _, _, .non, _ => .non
  | _, _, .bl b, _ => .bl b
  | _, _, .int i, _ => .int i
  | _, _, .str s, _ => .str s
  | _, _, .lst l h r, z => .lst l h (r.down (by simpa [CT.nx] using z))
  | _, _, .tup l h r, z => .tup l h (r.down (by simpa [CT.nx] using z))
  | _, _, .ktup h r, z => .ktup h (r.down (by simpa [CT.nx] using z))
  | _, _, .scr l h r, z => .scr l h (r.down (by simpa [CT.nx] using z))
  | _, _, .kscr h r, z => .kscr h (r.down (by simpa [CT.nx] using z))
  | _, _, .obj l h e r, z => .obj l h e (r.down (by simpa [CT.nx] using z))
  | _, _, .dT l h r, z => .dT l h (r.down (by simpa [CT.nx] using z))
  | _, _, .cell hi, _ => .cell hi
  | _, _, .cls c, _ => .cls c
  | _, _, .exn x l h e r, z => by cases z
theorem RepL.down : ∀ {vs : List V} {ds : List D}, RepL (k.hold a c dd) A C H vs ds → CT.nxL ds = true → RepL k A C H vs ds
  | _, _, .nil, _ => .nil
  | _, _, .cons r t, z => by
    simp [CT.nxL] at z
    exact .cons (r.down z.1) (t.down z.2)
end
theorem StOk.up (hk : k.ex = none) (st : StOk k A C H) : StOk (k.hold a c dd) A C H := by
  refine ⟨fun i x e => ?_, st.inj⟩
  have q := st.at_ i x e
  cases x with
  | lst ds => obtain ⟨vs, h1, r⟩ := q; exact ⟨vs, h1, r.up hk⟩
  | dT ks ds => obtain ⟨vs, h1, h2, r⟩ := q; exact ⟨vs, h1, h2, r.up hk⟩
  | ins c' ds => obtain ⟨dx, vs, h1, h2, r⟩ := q; exact ⟨dx, vs, h1, h2, r.up hk⟩
theorem StOk.down (hk : k.ex = none) (st0 : StOk k A C H) (st : StOk (k.hold a c dd) A' C H') : StOk k A' C H' := by
  refine ⟨fun i x e => ?_, st.inj⟩
  have q := st.at_ i x e
  have q0 := st0.at_ i x e
  cases x with
  | lst ds =>
    obtain ⟨vs, h1, r⟩ := q
    obtain ⟨_, _, r0⟩ := q0
    exact ⟨vs, h1, r.down (r0.nx hk)⟩
  | dT ks ds =>
    obtain ⟨vs, h1, h2, r⟩ := q
    obtain ⟨_, _, _, r0⟩ := q0
    exact ⟨vs, h1, h2, r.down (r0.nx hk)⟩
  | ins c' ds =>
    obtain ⟨dx, vs, h1, h2, r⟩ := q
    obtain ⟨_, _, _, _, r0⟩ := q0
    exact ⟨dx, vs, h1, h2, r.down (r0.nx hk)⟩
theorem Stp.down (hk : k.ex = none) (p : Stp (k.hold a c dd) fl A C H A' C' H') : Stp k fl A C H A' C' H' := ⟨fun v d r => (p.rep v d (r.up hk)).down (r.nx hk), p.len, p.low, p.frz⟩
theorem StOk.notXd {fs : List (Str × V)} (st : StOk k A C H) (h : H dd = some (.xd fs)) : ¬ Live A C dd := by
  rintro ⟨i, x, e, rfl⟩
  have q := st.at_ i x e
  cases x with
  | lst ds => obtain ⟨vs, h1, r⟩ := q; rw [h] at h1; cases h1
  | dT ks ds => obtain ⟨vs, h1, h2, r⟩ := q; rw [h] at h1; cases h1
  | ins c' ds => obtain ⟨dx, vs, h1, h2, r⟩ := q; rw [h] at h1; cases h1
end
open Classical in
/-- the clause's suite must return a value without the error, and change no cell -/
noncomputable def sTry (i : Nat) (cs ds : List Nat) (mb mh : MS) : MS := fun F C => match mb F C with
  | .xc e sl C' => if e.c ∈ cs then (match mh ⟨F.fl, sl.set i (some (.exn e.c e.fs))⟩ C' with
      | .rt d C2 => if C2 = C' ∧ nx d = true then .rt d C' else .stuck
      | _ => .stuck) else if e.c ∈ ds then .xc e sl C' else .stuck
  | r => r
section
variable {X : Cx} {k : Cn} {W : WX} {σ : L2.St} {H : Hp} {E : Ends} {mb mh : MS} {i : Nat} {cs ds : List Nat} {cv : Value} {x n : Str} {body suite : List Stmt} {b₀ : Stmt} {np pos pos' : Pos}
/-- what the clause wishes -/
def tsX (k : Cn) (cs : List Nat) (mh : MS) : Addr → Value → Option Addr → TS := fun a cls d D σ H => ∃ c dd, c ∈ cs ∧ cls = .ref (k.cl c) ∧ d = some dd ∧ LS (k.hold a c dd) (fun _ _ _ _ => False) mh D σ H
theorem ls_try (hk : k.ex = none) (hy : ∀ c ∈ cs, PySem.W.exmOne k.K (.ref (k.cl c)) cv = some true) (hn : ∀ c ∈ ds, PySem.W.exmOne k.K (.ref (k.cl c)) cv = some false) (h : LS k W (sTry i cs ds mb mh) E σ H) : LS k (wAs k.K cv i (tsX k cs mh) W E) mb E σ H := by
  obtain ⟨A, F, C, s, h⟩ := h
  refine ⟨A, F, C, s, ?_⟩
  unfold sTry at h
  cases em : mb F C with
  | nx sl C' => rw [em] at h; exact h
  | bk sl C' => rw [em] at h; exact h
  | ct sl C' => rw [em] at h; exact h
  | rt d C' => rw [em] at h; exact h
  | stuck => rw [em] at h; exact h
  | xc e sl C' =>
    rw [em] at h
    simp only at h
    intro A' σ' H' dd vs p sr hx hl r
    split at h
    · rename_i hc
      refine ⟨true, hy _ hc, fun _ a ha => ⟨e.c, dd, hc, rfl, rfl, A', ⟨F.fl, sl.set i (some (.exn e.c e.fs))⟩, C', ?_, ?_⟩, (fun z => by cases z)⟩
      · have su : SR (k.hold a e.c dd) A' ⟨F.fl, sl⟩ C' σ' H' := ⟨sr.st.up hk, sr.low, sr.fl, sr.len, fun j d e' => let ⟨v, h1, h2⟩ := sr.sl j d e'; ⟨v, h1, h2.up hk⟩⟩
        exact su.set (.exn rfl (sr.st.notXd hx) hx hl (r.up hk))
      · cases eh : mh ⟨F.fl, sl.set i (some (.exn e.c e.fs))⟩ C' with
        | rt d C2 =>
          rw [eh] at h
          simp only at h
          split at h
          · rename_i hq
            obtain ⟨rfl, hnx⟩ := hq
            intro A2 H2 v p2 st2 r2
            exact h A2 H2 v (p.trans (p2.down hk)) (StOk.down hk sr.st st2) (r2.down hnx)
          · exact h.elim
        | nx sl2 C2 => rw [eh] at h; exact h.elim
        | bk sl2 C2 => rw [eh] at h; exact h.elim
        | ct sl2 C2 => rw [eh] at h; exact h.elim
        | xc e2 sl2 C2 => rw [eh] at h; exact h.elim
        | stuck => rw [eh] at h; exact h.elim
    · split at h
      · rename_i hc
        exact ⟨false, hn _ hc, (fun z => by cases z), fun _ => h A' σ' H' dd vs p sr hx hl r⟩
      · exact h.elim
theorem ds_try (hs : X.stack = X.env :: X.outer) (hf : X.env.frame = some X.env.locals) (hN : X.N.Nodup) (hi : X.N[i]? = some n) (hln : X.env.kindOf n = some .local) (hc : Names X x cv) (tk : Takes X W) (hK : X.K = k.K) (hk : k.ex = none)
    (hy : ∀ c ∈ cs, PySem.W.exmOne k.K (.ref (k.cl c)) cv = some true) (hn : ∀ c ∈ ds, PySem.W.exmOne k.K (.ref (k.cl c)) cv = some false)
    (hb : ∀ (W : WX) (pn : List (Addr × Obj)) (xe : Value → Shared → Prop), Takes (X.tr pn xe) W → PassesOwn (model X.prog X.w) X.A X.env xe → PSs (X.tr pn xe) body (LS k W mb))
    (hsu : ∀ (a : Addr) (oe : Obj) (c : Nat) (dd : Addr) (pn : List (Addr × Obj)), c ∈ cs → Zc (.ref (k.cl c)) (some dd) oe → (∃ vs, oe.data = .fields vs) → PSs (X.suite a ((a, oe) :: pn)) (b₀ :: suite) (LS (k.hold a c dd) (fun _ _ _ _ => False) mh)) :
    PS X (.Try body [.ExceptHandler (some (.Name x np)) (some n) (b₀ :: suite) pos'] [] [] pos) (LS k W (sTry i cs ds mb mh)) :=
  (ps_try_as (tb := fun W => LS k W mb) (ts := tsX k cs mh) hs hf hN hi hln hc tk hb (fun a oe cls d pn hz hv => ⟨fun pins s σ H D I h => by
    obtain ⟨c, dd, hc', rfl, rfl, h⟩ := h
    exact (hsu a oe c dd pn hc' hz hv).run pins s σ H D I h⟩)).cq fun D σ H h => by
    rw [hK]
    exact ls_try hk hy hn h
/-! ### the held error's fields -/
def oXf (c n : Nat) : O1 := fun x C => match x with
  | .exn c' fs => if c' = c then (fs[n]?).map fun d => (d, C) else none
  | _ => none
theorem le_xf {c c' : Nat} {a dd : Addr} {f : Str} {nn : Nat} {me : ME} {Q : VK} (nd : (k.fn c).Nodup) (hf : (k.fn c)[nn]? = some f) (h : LE (k.hold a c' dd) W (mUn (oXf c nn) me) σ H Q) : tXf a (.ref (k.cl c')) (some dd) (k.cl c) f (LE (k.hold a c' dd) W me) σ H Q := by
  obtain ⟨A, F, C, s, h⟩ := h
  refine ⟨A, F, C, s, (Aft.bnd (rel := RepD (k.hold a c' dd)) h).mono fun dx C1 A1 H1 v p1 st1 r1 h1 => ?_⟩
  obtain ⟨d, C', e, q⟩ := aft_ofO h1
  cases r1 with
  | @exn a0 dd0 c0 vs ds0 x l hx hl rv =>
    simp only [oXf] at e
    split at e
    · rename_i hcc
      subst hcc
      cases x
      cases ed : ds0[nn]? with
      | none => rw [ed] at e; cases e
      | some d0 =>
        rw [ed] at e
        cases e
        obtain ⟨u, h2, h3⟩ := rv.get ed
        exact ⟨rfl, rfl, dd, _, u, rfl, hx, zip_look nd hf h2, q A1 H1 u Stp.refl st1 h3⟩
    · cases e
  | _ => cases e
theorem de_xf {a : Addr} {oe : Obj} {c' : Nat} {dd : Addr} {pn : List (Addr × Obj)} (c nn : Nat) {f : Str} {e : Expr} {me : ME} (hK : X.K = k.K) (T : XfC k.K (k.cl c)) (hno : PySem.W.findIn k.K (.ref (k.cl c)) f = some none) (nd : (k.fn c).Nodup) (hfn : (k.fn c)[nn]? = some f)
    (hz : Zc (.ref (k.cl c')) (some dd) oe) (hv : ∃ vs, oe.data = .fields vs) (he : PE (X.suite a ((a, oe) :: pn)) e (LE (k.hold a c' dd) W me)) (hb : attributeBase e f X.env (eval e X.env) = eval e X.env := by rfl) :
    PE (X.suite a ((a, oe) :: pn)) (.Attribute e f pos) (LE (k.hold a c' dd) W (mUn (oXf c nn) me)) :=
  (pe_xf (C := k.cl c) (by rw [hK]; exact T) (by rw [hK]; exact hno) hz.zc hv he hb).cq fun _ _ _ h => le_xf nd hfn h
end
end CT
set_option maxHeartbeats 4000000
/-! DLQ: isinstance of the held error. -/
namespace CT
open PySem L2 PySem.Spec PyProof.Rows PySem.W
theorem _root_.L2.ExcC.xf {K : Frag} {D : Addr} (T : ExcC K D) : XfC K D := ⟨T.hg, T.hk, T.hs, T.hd⟩
section
variable {X : Cx} {k : Cn} {W : WX} {σ : L2.St} {H : Hp} {Q : VK}
structure XsOk (k : Cn) (kn : List Nat) : Prop where
  exc : ∀ c ∈ kn, ExcC k.K (k.cl c)
  own : ∀ c ∈ kn, ∀ c' ∈ kn, kitOne k.K (.ref (k.cl c)) (.ref (k.cl c')) = some (decide (c = c'))
theorem excA_ok {C : Addr} {K : Frag} (h : excA C K = true) : ExcC K C := by
  obtain ⟨h1, h⟩ := He.ba h
  obtain ⟨h2, h⟩ := He.ba h
  obtain ⟨h3, h⟩ := He.ba h
  obtain ⟨h4, h⟩ := He.ba h
  obtain ⟨h5, h⟩ := He.ba h
  obtain ⟨h6, h⟩ := He.ba h
  obtain ⟨h7, h8⟩ := He.ba h
  exact ⟨He.eqO_ok h1, He.eqO_ok h2, of_decide_eq_true h3, h4, He.eqO_ok h5, He.eqO_ok h6, of_decide_eq_true h7, of_decide_eq_true h8⟩
theorem xsB_ok {cl : Frag → Nat → Addr} {kn : List Nat} {k : Cn} {K : Frag} (hK : k.K = K) (hc : k.cl = cl K) (h : xsB cl kn K = true) : XsOk k kn := by
  obtain ⟨h1, h⟩ := He.ba h
  refine ⟨fun c hm => ?_, fun c hm c' hm' => ?_⟩
  · rw [hK, hc]
    exact excA_ok (List.all_eq_true.mp h1 c hm)
  · rw [hK, hc]
    exact of_decide_eq_true (List.all_eq_true.mp (List.all_eq_true.mp h c hm) c' hm')
structure ExmOk (k : Cn) (cv : Value) (cs ds : List Nat) : Prop where
  yes : ∀ c ∈ cs, exmOne k.K (.ref (k.cl c)) cv = some true
  no : ∀ c ∈ ds, exmOne k.K (.ref (k.cl c)) cv = some false
theorem exmB_ok {cl : Frag → Nat → Addr} {x : Str} {cs ds : List Nat} {k : Cn} {K : Frag} (hK : k.K = K) (hc : k.cl = cl K) (h : exmB cl x cs ds K = true) : ExmOk k (.ref (He.ga K x)) cs ds := by
  obtain ⟨h1, h2⟩ := He.ba h
  refine ⟨fun c hm => ?_, fun c hm => ?_⟩
  · rw [hK, hc]
    exact of_decide_eq_true (List.all_eq_true.mp h1 c hm)
  · rw [hK, hc]
    exact of_decide_eq_true (List.all_eq_true.mp h2 c hm)
end
end CT
set_option maxHeartbeats 4000000
/-! DLR: web * k. -/
namespace CT
open PySem L2 PySem.Spec PyProof.Rows PySem.W
section
variable {prog : Program} {w : World} {A : Around} {E : Value → Shared → Prop} {s : Shared} {K : Frag} {x C f g : Addr} {ox : Obj} {od : Option Obj} {nm : String}
theorem byName_K {M : Model} {h : Heap} {t : Value} {name : Str} {v : Addr} : Looks M h (calledByName t name (some (.ref v))) true := .now
theorem numSlot_K {M : Model} {h : Heap} (KX : K.In h) (hs : findIn K (.ref C) (PySem.dunder nm) = some (some (.ref f))) (hr : findIn K (.ref C) (PySem.dunderR nm) = some (some (.ref g))) : Looks M h (numberSlotInPython (.ref C) nm) true := by
  intro A Q E s k q
  unfold numberSlotInPython
  simp only
  refine wpAny_bind (looks_findIn KX hs A _ E s k ?_)
  refine wpAny_bind (byName_K (h := s.heap) A _ E s (fun _ _ z => z) ?_)
  refine wpAny_bind (looks_findIn KX hr A _ E s k ?_)
  refine wpAny_bind (byName_K (h := s.heap) A _ E s (fun _ _ z => z) ?_)
  simp only [Bool.or_self, if_true]
  exact wpAny_pure q
/-- x op k by the class's own def, k an int -/
theorem own_int {op : Operator} {i : Int} {t : Tok} {z : Value} {Q : Value → Shared → Prop} (KX : K.In s.heap) (J : InstAt s.heap x ox C od) (hc : selfFirst K C = true) (hs : findIn K (.ref C) (PySem.dunder op.info.2) = some (some (.ref f))) (hr : findIn K (.ref C) (PySem.dunderR op.info.2) = some (some (.ref g))) (hf : isFn K (.ref f) = true)
    (hsub : subIn K (.type "int") (.ref C) = some false) (hfi : fillsNumberSlot (.type "int") op.info.2 = pure true) (hrl : typeLookup (.type "int") (PySem.dunderR op.info.2) = pure (some z))
    (h : wpAny (model prog w) A (call (.ref f) [.ref x, .int i t]) (PySem.W.CmpBack Q) E s) : wpAny (model prog w) A (binaryOp op (.ref x) (.int i t)) Q E s := by
  obtain ⟨cd, hcd, hm⟩ := any_some hc
  obtain ⟨rest, hm⟩ : ∃ rest, cd.mro = .ref C :: rest := by
    cases q : cd.mro with
    | nil => rw [q] at hm; cases hm
    | cons a r => rw [q] at hm; exact ⟨r, by rw [List.head?_cons] at hm; cases (beq_iff_eq.mp hm); rfl⟩
  have ne : (Value.ref C == Value.type "int") = false := rfl
  have ty : typeOf (.int i t) = pure (.type "int") := rfl
  have ns : numberSlotInPython (.type "int") op.info.2 = pure false := rfl
  unfold binaryOp
  refine wpAny_holding (wpAny_bind ?_)
  unfold binaryOp1
  refine wpAny_bind (J.type.here (wpAny_bind (wpAny_of_eq ty (wpAny_bind ((fills_K KX hcd hm hs).here ?_)))))
  simp only [ne, Bool.false_eq_true, if_false]
  refine wpAny_bind (wpAny_of_eq hfi ?_)
  simp only [Bool.and_self, if_true]
  refine wpAny_bind ((looks_subIn KX hsub).here ?_)
  simp only [Bool.false_eq_true, if_false, Bool.not_false, Bool.and_self, if_true]
  refine wpAny_bind ((numSlot_K KX hs hr).here ?_)
  simp only [if_true]
  refine wpAny_bind (wpAny_of_eq ns ?_)
  simp only [Bool.not_false, if_true]
  refine wpAny_bind (wpAny_of_eq hrl ?_)
  refine wpAny_bind (m := tryMethod (.ref x) _ (.int i t)) ?_
  unfold tryMethod
  refine wpAny_bind (special_fn KX J hs (beq_iff_eq.mp hf) (wpAny_mono h (fun v s' hv => ?_) fun _ _ e => e))
  cases v <;> first | exact hv.elim | exact wpAny_pure (wpAny_pure (wpAny_pure hv))
/-- k op x: the int declines, the class's reflected def is asked -/
theorem int_own {i : Int} {t : Tok} {op : Operator} {id : String} {Q : Value → Shared → Prop} (KX : K.In s.heap) (J : InstAt s.heap x ox C od) (hc : selfFirst K C = true) (hs : findIn K (.ref C) (PySem.dunder op.info.2) = some (some (.ref f))) (hr : findIn K (.ref C) (PySem.dunderR op.info.2) = some (some (.ref g))) (hf : isFn K (.ref g) = true)
    (hsub : subIn K (.ref C) (.type "int") = some false) (hfi : fillsNumberSlot (.type "int") op.info.2 = pure true) (hsl : Slot "int" (PySem.dunder op.info.2) id)
    (hd : wpAny (model prog w) A (call (.builtin id) [.int i t, .ref x]) (fun v s' => v = .notImplemented ∧ s' = s) E s)
    (h : wpAny (model prog w) A (call (.ref g) [.ref x, .int i t]) (PySem.W.CmpBack Q) E s) : wpAny (model prog w) A (binaryOp op (.int i t) (.ref x)) Q E s := by
  obtain ⟨cd, hcd, hm⟩ := any_some hc
  obtain ⟨rest, hm⟩ : ∃ rest, cd.mro = .ref C :: rest := by
    cases q : cd.mro with
    | nil => rw [q] at hm; cases hm
    | cons a r => rw [q] at hm; exact ⟨r, by rw [List.head?_cons] at hm; cases (beq_iff_eq.mp hm); rfl⟩
  have ne : (Value.type "int" == Value.ref C) = false := rfl
  have ty : typeOf (.int i t) = pure (.type "int") := rfl
  have ns : numberSlotInPython (.type "int") op.info.2 = pure false := rfl
  unfold binaryOp
  refine wpAny_holding (wpAny_bind ?_)
  unfold binaryOp1
  refine wpAny_bind (wpAny_of_eq ty (wpAny_bind (J.type.here (wpAny_bind (wpAny_of_eq hfi ?_)))))
  simp only [ne, Bool.false_eq_true, if_false]
  refine wpAny_bind ((fills_K KX hcd hm hs).here ?_)
  simp only [Bool.and_self, if_true]
  refine wpAny_bind ((looks_subIn KX hsub).here ?_)
  simp only [Bool.false_eq_true, if_false, Bool.not_false, Bool.and_self, if_true]
  refine wpAny_bind (wpAny_of_eq ns ?_)
  simp only [Bool.false_eq_true, if_false, if_true]
  refine wpAny_bind (wpAny_tryMethod_declines (typeIs_int s i t) hsl (wpAny_mono hd (fun v s' z => ⟨z.1, ?_⟩) fun _ _ e => e))
  obtain ⟨_, rfl⟩ := z
  refine wpAny_bind (m := tryMethod (.ref x) _ (.int i t)) ?_
  unfold tryMethod
  refine wpAny_bind (special_fn KX J hr (beq_iff_eq.mp hf) (wpAny_mono h (fun v s' hv => ?_) fun _ _ e => e))
  cases v <;> first | exact hv.elim | exact wpAny_pure (wpAny_bind (wpAny_rule (wpAny_pure (wpAny_pure hv)))) | exact wpAny_pure (wpAny_rule (wpAny_pure (wpAny_pure hv)))
end
theorem int_mul_inst (a : Int) (t : Tok) (l C dx : Addr) : Meets (Builtin.«int.__mul__» ⟨[.int a t, .ref l], []⟩) (fun _ R s => s.heap.get? l = some (instObj C dx) ∧ R (.ok (.ret Value.notImplemented)) s) :=
  .of_wp fun prog w A R s h => by
    obtain ⟨hp, g, d, tk, os⟩ := s
    obtain ⟨hl, h⟩ := h
    wp_walk
    exact ⟨_, rfl, h⟩
/-! ### over data -/
/-- what the written part says of a class with * -/
structure MulOk (K : Frag) (C f g : Addr) : Prop where
  sf : selfFirst K C = true
  mul : findIn K (.ref C) (PySem.dunder "mul") = some (some (.ref f))
  rmul : findIn K (.ref C) (PySem.dunderR "mul") = some (some (.ref g))
  fn : isFn K (.ref f) = true
  rfn : isFn K (.ref g) = true
  s1 : subIn K (.type "int") (.ref C) = some false
  s2 : subIn K (.ref C) (.type "int") = some false
theorem mulB_ok {x : Str} {K : Frag} (h : mulB x K = true) : MulOk K (He.ga K x) (He.ma K (He.ga K x) "__mul__") (He.ma K (He.ga K x) "__rmul__") := by
  obtain ⟨h1, h⟩ := He.ba h
  obtain ⟨h2, h⟩ := He.ba h
  obtain ⟨h3, h⟩ := He.ba h
  obtain ⟨h4, h⟩ := He.ba h
  obtain ⟨h5, h⟩ := He.ba h
  obtain ⟨h6, h7⟩ := He.ba h
  exact ⟨h1, He.eqO_ok h2, He.eqO_ok h3, h4, h5, of_decide_eq_true h6, of_decide_eq_true h7⟩
/-- x * k -/
def mMulR (c : Nat) (m : MF) (mo me : ME) : ME := fun F C => bnd (mo F C) fun x C1 => bnd (me F C1) fun y C2 => match y with
  | .int _ => if isC c x C2 = true then m [x, y] C2 else .stuck
  | _ => .stuck
/-- k * x -/
def mMulL (c : Nat) (m : MF) (me mo : ME) : ME := fun F C => bnd (me F C) fun x C1 => bnd (mo F C1) fun y C2 => match x with
  | .int _ => if isC c y C2 = true then m [y, x] C2 else .stuck
  | _ => .stuck
section
variable {X : Cx} {k : Cn} {W : WX} {σ : L2.St} {H : Hp} {Q : VK} {lev : Nat} {C f g : Addr} {fd : FuncData} {ps : List Str} {np : Nat} {m : MF} {e o b : Expr} {pos : Pos} {mo me : ME} {E : L2.St → XK} {sp : Sp}
theorem op_mulR (hg : MulOk X.K C f g) (F : FnG X.prog X.w X.K X.mg X.base lev f fd ps sp) (hr : RoomG lev X.A) (hb : Binds X.K fd ps []) (hx : ∀ σ, PassesAt (L2N.CX X.prog X.w) X σ (E σ)) :
    OpX X (binaryOp .Mult) fun σ x y H Q => ∃ a dx fs i, x = .ref a ∧ y = .int i ∧ H a = some (.ins C dx fs) ∧ sp [x, y] H Q (E σ) := by
  intro pins s σ H x y v u Q I rx ry h
  obtain ⟨a, dx, fs, i, rfl, rfl, ha, q⟩ := h
  cases (show v = Value.ref a from rx)
  obtain ⟨t, rfl⟩ := ry
  obtain ⟨mA, O, _, _, _, _⟩ := ins_get I.hok ha
  obtain ⟨od, J, _⟩ := O.look
  refine own_int (op := .Mult) I.kIn J hg.sf hg.mul hg.rmul hg.fn hg.s1 PySem.F.fills_int_mul PySem.F.slot_int_rmul.lookup ?_
  refine wpAny_mono (run_fnG (us := [.ref a, .int i t]) (vs := [.ref a, .int i]) (dvs := []) (ds := []) F hr hb .nil (hx σ) I (.cons rfl (.cons ⟨t, rfl⟩ .nil)) q) (fun z' s' hz => ?_) fun _ _ z => z
  obtain ⟨z, H', I', rz, qz⟩ := hz
  exact SlX.cmpback rz ⟨z, H', I', rz, qz⟩
theorem op_mulL (hg : MulOk X.K C f g) (F : FnG X.prog X.w X.K X.mg X.base lev g fd ps sp) (hr : RoomG lev X.A) (hb : Binds X.K fd ps []) (hx : ∀ σ, PassesAt (L2N.CX X.prog X.w) X σ (E σ)) :
    OpX X (binaryOp .Mult) fun σ x y H Q => ∃ a dx fs i, y = .ref a ∧ x = .int i ∧ H a = some (.ins C dx fs) ∧ sp [y, x] H Q (E σ) := by
  intro pins s σ H x y v u Q I rx ry h
  obtain ⟨a, dx, fs, i, rfl, rfl, ha, q⟩ := h
  cases (show u = Value.ref a from ry)
  obtain ⟨t, rfl⟩ := rx
  obtain ⟨mA, O, _, _, _, _⟩ := ins_get I.hok ha
  obtain ⟨od, J, _⟩ := O.look
  refine int_own (op := .Mult) I.kIn J hg.sf hg.mul hg.rmul hg.rfn hg.s2 PySem.F.fills_int_mul PySem.F.slot_int_mul (call_meets PySem.F.slot_int_mul (typeIs_int s i t) PySem.F.entry_int_mul (PySem.F.args_int_mul_2 _ _) (int_mul_inst i t a C dx) ⟨O.obj, rfl, rfl⟩) ?_
  refine wpAny_mono (run_fnG (us := [.ref a, .int i t]) (vs := [.ref a, .int i]) (dvs := []) (ds := []) F hr hb .nil (hx σ) I (.cons rfl (.cons ⟨t, rfl⟩ .nil)) q) (fun z' s' hz => ?_) fun _ _ z => z
  obtain ⟨z, H', I', rz, qz⟩ := hz
  exact SlX.cmpback rz ⟨z, H', I', rz, qz⟩
theorem le_mulR {c : Nat} (ar : Ar np m) (h : LE k W (mMulR c m mo me) σ H Q) : tOpX (fun σ x y H Q => ∃ a dx fs i, x = .ref a ∧ y = .int i ∧ H a = some (.ins (k.cl c) dx fs) ∧ SpD k np m [x, y] H Q (WE W σ)) (LE k W mo) (LE k W me) σ H Q := by
  obtain ⟨A, F, C, s, h⟩ := h
  refine ⟨A, F, C, s, (Aft.bnd (rel := RepD k) h).mono fun dx C1 A1 H1 v p1 st1 r1 h1 => ?_⟩
  have s1 := s.step p1 st1
  refine ⟨A1, F, C1, s1, (Aft.bnd (rel := RepD k) h1).mono fun dy C2 A2 H2 u p2 st2 r2 h2 => ?_⟩
  have s2 := s1.step p2 st2
  cases r2 with
  | int i =>
    simp only at h2
    split at h2
    · rename_i hc
      obtain ⟨a, dx', gs, rfl, ha⟩ := isC_at st2 (p2.rep _ _ r1) hc
      exact ⟨a, dx', gs, i, rfl, rfl, ha, sp_of s2.fl ar st2 (.cons (p2.rep _ _ r1) (.cons (.int i) .nil)) h2⟩
    · exact h2.elim
  | _ => exact h2.elim
theorem le_mulL {c : Nat} (ar : Ar np m) (h : LE k W (mMulL c m me mo) σ H Q) : tOpX (fun σ x y H Q => ∃ a dx fs i, y = .ref a ∧ x = .int i ∧ H a = some (.ins (k.cl c) dx fs) ∧ SpD k np m [y, x] H Q (WE W σ)) (LE k W me) (LE k W mo) σ H Q := by
  obtain ⟨A, F, C, s, h⟩ := h
  refine ⟨A, F, C, s, (Aft.bnd (rel := RepD k) h).mono fun dx C1 A1 H1 v p1 st1 r1 h1 => ?_⟩
  have s1 := s.step p1 st1
  refine ⟨A1, F, C1, s1, (Aft.bnd (rel := RepD k) h1).mono fun dy C2 A2 H2 u p2 st2 r2 h2 => ?_⟩
  have s2 := s1.step p2 st2
  cases r1 with
  | int i =>
    simp only at h2
    split at h2
    · rename_i hc
      obtain ⟨a, dx', gs, rfl, ha⟩ := isC_at st2 r2 hc
      exact ⟨a, dx', gs, i, rfl, rfl, ha, sp_of s2.fl ar st2 (.cons r2 (.cons (.int i) .nil)) h2⟩
    · exact h2.elim
  | _ => exact h2.elim
theorem de_mulR (c : Nat) (tk : Takes X W) (hK : X.K = k.K) (ha : PE X o (LE k W mo)) (hbb : PE X b (LE k W me)) (hg : MulOk k.K (k.cl c) f g) (F : FnG X.prog X.w X.K X.mg X.base lev f fd ps (SpD k np m)) (ar : Ar np m) (hr : RoomG lev X.A) (hb : Binds X.K fd ps []) : PE X (.BinOp o .Mult b pos) (LE k W (mMulR c m mo me)) :=
  (pe_opX (op_mulR (by rw [hK]; exact hg) F hr hb fun σ => passAt tk σ) ha hbb).cq fun _ _ _ h => le_mulR ar h
theorem de_mulL (c : Nat) (tk : Takes X W) (hK : X.K = k.K) (ha : PE X e (LE k W me)) (hbb : PE X o (LE k W mo)) (hg : MulOk k.K (k.cl c) f g) (F : FnG X.prog X.w X.K X.mg X.base lev g fd ps (SpD k np m)) (ar : Ar np m) (hr : RoomG lev X.A) (hb : Binds X.K fd ps []) : PE X (.BinOp e .Mult o pos) (LE k W (mMulL c m me mo)) :=
  (pe_opX (op_mulL (by rw [hK]; exact hg) F hr hb fun σ => passAt tk σ) ha hbb).cq fun _ _ _ h => le_mulL ar h
end
end CT
set_option maxHeartbeats 4000000
/-! DLS: is None; sorted(set(xs)) of ints, len(set(xs)) of tuples of ints. -/
namespace CT
open PySem L2 PySem.Spec PyProof.Rows
/-! ### is None, is not None -/
/-! ### set(xs), xs a list of ints -/
end CT
set_option maxHeartbeats 4000000
/-! E1: how the terms of the layer are worked out. -/
namespace CT
open PySem L2
/-! ### named steps; simp looks at what is done first alone -/
theorem ev_def {np ns : Nat} {body : MS} {ds : List D} {C : Store} (h : ds.length = np) : mDef np ns body ds C = finS C.length (body ⟨C.length, ds.map some ++ List.replicate (ns - np) none⟩ C) := by
  unfold mDef
  rw [if_pos h]
  rfl
section
variable (fl : Nat) (sl : List (Option D)) (C : Store) (F : Fr)
theorem ev_mod {a b : Int} (h : 0 < b) : oMod (.int a) (.int b) C = some (.int (a % b), C) := by
  show (if decide (0 < b) = true then some (D.int (a % b), C) else none) = _
  rw [if_pos (decide_eq_true h)]
theorem ev_div {a b : Int} (h : 0 < b) (h2 : b < 4611686018427387904) : oDiv (.int a) (.int b) C = some (.int (a / b), C) := by
  show (if cDiv a b = true then some (D.int (a / b), C) else none) = _
  rw [if_pos (by simp [cDiv, h, h2])]
end
/-! ### what is done next, as constants -/
section
variable {α β : Type}
/-! #### methods, properties, dicts -/
theorem getK_ok (b c : ME) (F : Fr) {x : D} {C : Store} (h : (vD x C).isSome = true) : getK b c F (.ok x C) = getK2 c F x (b F C) := by
  show (if (vD x C).isSome = true then getK2 c F x (b F C) else .stuck) = _
  rw [if_pos h]
/-! #### lists written -/
end
end CT
set_option maxHeartbeats 4000000
/-! DLT: sorted(set(xs)) of ints, len(set(xs)) of tuples of ints. -/
namespace CT
open PySem L2 PySem.Spec PyProof.Rows
theorem mDef_e {np ns : Nat} {b : MS} {ds : List D} {C : Store} {sl : List (Option D)} (h : ds.length = np) (hs : ds.map some ++ List.replicate (ns - np) none = sl) : mDef np ns b ds C = finS C.length (b ⟨C.length, sl⟩ C) := by
  rw [← hs]
  exact ev_def h
/-! ### unlike members, ascending -/
/-! ### unlike rows -/
/-! ### the calls -/
/-! ### over data -/
end CT
set_option maxHeartbeats 4000000
/-! DLU: repr of an empty dict. -/
namespace CT
open PySem L2 PySem.Spec PyProof.Rows
end CT
set_option maxHeartbeats 4000000
/-! DLV: l.count(x) over data. -/
namespace CT
open PySem L2 PySem.Spec PyProof.Rows
end CT
set_option maxHeartbeats 4000000
/-! DLW: a class whose __init__ takes *numbers and a keyword. -/
namespace CT
open PySem L2 PySem.Spec PyProof.Rows
/-! ### C(e, ..), C(k = e) -/
def Vg.d : Vg → List D → D × List D
  | .pos, ds => (.non, ds)
  | .kw, ds => (ds.headD .non, [])
section
variable {k : Cn} {A : Nat → Addr} {C : Store} {H : Hp}
theorem Vg.rep (g : Vg) {vs : List V} {ds : List D} (r : RepL k A C H vs ds) : Rep k A C H (g.v vs).1 (g.d ds).1 ∧ RepL k A C H (g.v vs).2 (g.d ds).2 := by
  cases g with
  | pos => exact ⟨.non, r⟩
  | kw => cases r with
    | nil => exact ⟨.non, .nil⟩
    | cons h t => exact ⟨h, .nil⟩
end
end CT
set_option maxHeartbeats 4000000
/-! DLX: len(set(t)) of a tuple of ints; sorted(t); str(n), f-strings, join. -/
namespace CT
open PySem L2 PySem.Spec PyProof.Rows
/-! ### len(set(t)) -/
/-! ### sorted(t) -/
end CT
set_option maxHeartbeats 4000000
/-! DLY: sorted of lists or tuples; str(n), f-strings, join; str(o) by the class's own __str__. -/
namespace CT
open PySem L2 PySem.Spec PyProof.Rows
section
variable {X : Cx} {k : Cn} {W : WX} {σ : L2.St} {H : Hp} {Q : VK}
/-! ### str(n) -/
/-! ### f-strings -/
inductive FP where
  | txt (s : Str) | ex (m : ME)
def FP.t (k : Cn) (W : WX) : FP → TE
  | .txt s => tC (.str s)
  | .ex m => tFmt (LE k W m)
variable {v1 v2 : Expr} {rest : List Expr} {pos : Pos}
/-! ### join -/
variable {mo me : ME}
variable {o e : Expr} {apos : Pos}
/-! ### str(o) -/
variable {lev : Nat} {g : Addr} {fd : FuncData} {ps : List Str} {m : MF} {p : Pos}
end
end CT
set_option maxHeartbeats 4000000
/-! DLZ: binding of *numbers and a keyword that is None by itself. -/
namespace CT
open PySem L2 PySem.Spec PyProof.Rows
end CT
set_option maxHeartbeats 4000000
/-! DM1: classmethods (C.m(..), cls(k = e)); + of texts. -/
namespace CT
open PySem L2 PySem.Spec PyProof.Rows
end CT
set_option maxHeartbeats 4000000
/-! DM2: the head's Hook where attributes of classes are read. -/
namespace CT
open PySem L2 PySem.Spec PyProof.Rows
end CT
set_option maxHeartbeats 8000000
set_option pp.maxSteps 60
namespace CL
open PySem L2 PySem.Spec PyProof.Rows CT
def flA (c : Nat) : List Str := match c with
  | 0 => ["size", "grid", "ties"]
  | 2 => ["limit"]
  | 3 => ["pair"]
  | 4 => ["other", "one"]
  | _ => []
abbrev cn (K : PySem.W.Frag) : Cn := ⟨K, clA K, flA, none⟩
structure Txt (K : PySem.W.Frag) (mg : Str → Option Value) : Prop where
  n_abs : mg "abs" = none
  n_all : mg "all" = none
  n_any : mg "any" = none
  n_bool : mg "bool" = none
  n_enumerate : mg "enumerate" = none
  n_int : mg "int" = none
  n_isinstance : mg "isinstance" = none
  n_len : mg "len" = none
  n_list : mg "list" = none
  n_max : mg "max" = none
  n_min : mg "min" = none
  n_range : mg "range" = none
  n_repr : mg "repr" = none
  n_sum : mg "sum" = none
  n_tuple : mg "tuple" = none
  n_zip : mg "zip" = none
  c_MOST : ∃ t, mg "MOST" = some (.int 1000000000 t)
  g_is_integer : mg "is_integer" = some (.ref (a_is_integer K))
  g_is_count : mg "is_count" = some (.ref (a_is_count K))
  g_is_tie : mg "is_tie" = some (.ref (a_is_tie K))
  g_summed : mg "summed" = some (.ref (a_summed K))
  g_grid_of : mg "grid_of" = some (.ref (a_grid_of K))
  g_beside : mg "beside" = some (.ref (a_beside K))
  g_renamed : mg "renamed" = some (.ref (a_renamed K))
  g_moved : mg "moved" = some (.ref (a_moved K))
  g_law_bag : mg "_law_bag" = some (.ref (a_law_bag K))
  g_law_take : mg "_law_take" = some (.ref (a_law_take K))
  g_law_mixed : mg "_law_mixed" = some (.ref (a_law_mixed K))
  g_law_web : mg "_law_web" = some (.ref (a_law_web K))
  g_law_sum : mg "_law_sum" = some (.ref (a_law_sum K))
  g_law_fits : mg "_law_fits" = some (.ref (a_law_fits K))
  g_law_counts_right : mg "_law_counts_right" = some (.ref (a_law_counts_right K))
  g_law_sums_right : mg "_law_sums_right" = some (.ref (a_law_sums_right K))
  g_law : mg "law" = some (.ref (a_law K))
  g_Web : mg "Web" = some (.ref (He.ga K "Web"))
  cl_Web : Cls K (He.ga K "Web")
  no_Web_size : NoAttr K (He.ga K "Web") "size"
  no_Web_grid : NoAttr K (He.ga K "Web") "grid"
  no_Web_ties : NoAttr K (He.ga K "Web") "ties"
  mk_Web : Mk K (He.ga K "Web") (a_Web__init K)
  kt_Web__init : KT K (d_Web__init K) []
  pr_total : PropOf K (He.ga K "Web") "total" (prA K (He.ga K "Web") "total") (a_Web_total K)
  pr_degrees : PropOf K (He.ga K "Web") "degrees" (prA K (He.ga K "Web") "degrees") (a_Web_degrees K)
  dn_Web__getitem : DnOk K (He.ga K "Web") "__getitem__" (a_Web__getitem K)
  dn_Web__eq : DnOk K (He.ga K "Web") "__eq__" (a_Web__eq K)
  dn_Web__add : DnOk K (He.ga K "Web") "__add__" (a_Web__add K)
  dn_Web__sub : DnOk K (He.ga K "Web") "__sub__" (a_Web__sub K)
  dn_Web__mul : DnOk K (He.ga K "Web") "__mul__" (a_Web__mul K)
  dn_Web__rmul : DnOk K (He.ga K "Web") "__rmul__" (a_Web__rmul K)
  me_Web_within : Meth K (He.ga K "Web") "within" (a_Web_within K)
  me_Web_crossing : Meth K (He.ga K "Web") "crossing" (a_Web_crossing K)
  g_TooMany : mg "TooMany" = some (.ref (He.ga K "TooMany"))
  xi_TooMany : XIni K (He.ga K "TooMany") (a_TooMany__init K)
  nox_TooMany_limit : NoAttr K (He.ga K "TooMany") "limit"
  g_TooFew : mg "TooFew" = some (.ref (He.ga K "TooFew"))
  xi_TooFew : XIni K (He.ga K "TooFew") (a_TooFew__init K)
  nox_TooFew_pair : NoAttr K (He.ga K "TooFew") "pair"
  g_Unequal : mg "Unequal" = some (.ref (He.ga K "Unequal"))
  xi_Unequal : XIni K (He.ga K "Unequal") (a_Unequal__init K)
  nox_Unequal_other : NoAttr K (He.ga K "Unequal") "other"
  nox_Unequal_one : NoAttr K (He.ga K "Unequal") "one"
  exm_TooFew : ExmOk (cn K) (.ref (He.ga K "TooFew")) [3] [2, 4]
  xs : XsOk (cn K) [2, 3, 4]
  eq_Web : EqOk K (He.ga K "Web") (He.ma K (He.ga K "Web") "__eq__")
  mu_Web : MulOk K (He.ga K "Web") (He.ma K (He.ga K "Web") "__mul__") (He.ma K (He.ga K "Web") "__rmul__")
  sf_Web : PySem.W.selfFirst K (He.ga K "Web") = true
  isa : IsaOk (cn K) [0]
  f_TooMany__init : ∃ fd, FunD K "__init__" "TooMany.__init__" (defArgs s_TooMany__init) (defBody s_TooMany__init) (defScope s_TooMany__init) [] [] (a_TooMany__init K) fd
  f_TooFew__init : ∃ fd, FunD K "__init__" "TooFew.__init__" (defArgs s_TooFew__init) (defBody s_TooFew__init) (defScope s_TooFew__init) [] [] (a_TooFew__init K) fd
  f_Unequal__init : ∃ fd, FunD K "__init__" "Unequal.__init__" (defArgs s_Unequal__init) (defBody s_Unequal__init) (defScope s_Unequal__init) [] [] (a_Unequal__init K) fd
  f_is_integer : ∃ fd, FunD K "is_integer" "is_integer" (defArgs s_is_integer) (defBody s_is_integer) (defScope s_is_integer) [] [] (a_is_integer K) fd
  f_is_count : ∃ fd, FunD K "is_count" "is_count" (defArgs s_is_count) (defBody s_is_count) (defScope s_is_count) [] [] (a_is_count K) fd
  f_is_tie : ∃ fd, FunD K "is_tie" "is_tie" (defArgs s_is_tie) (defBody s_is_tie) (defScope s_is_tie) [] [] (a_is_tie K) fd
  f_summed : ∃ fd, FunD K "summed" "summed" (defArgs s_summed) (defBody s_summed) (defScope s_summed) [] [] (a_summed K) fd
  f_grid_of : ∃ fd, FunD K "grid_of" "grid_of" (defArgs s_grid_of) (defBody s_grid_of) (defScope s_grid_of) [] [] (a_grid_of K) fd
  f_Web__init : ∃ fd, FunD K "__init__" "Web.__init__" (defArgs s_Web__init) (defBody s_Web__init) (defScope s_Web__init) [V.ref (d_Web__init K)] [] (a_Web__init K) fd
  f_Web_total : ∃ fd, FunD K "total" "Web.total" (defArgs s_Web_total) (defBody s_Web_total) (defScope s_Web_total) [] [] (a_Web_total K) fd
  f_Web_degrees : ∃ fd, FunD K "degrees" "Web.degrees" (defArgs s_Web_degrees) (defBody s_Web_degrees) (defScope s_Web_degrees) [] [] (a_Web_degrees K) fd
  f_Web__getitem : ∃ fd, FunD K "__getitem__" "Web.__getitem__" (defArgs s_Web__getitem) (defBody s_Web__getitem) (defScope s_Web__getitem) [] [] (a_Web__getitem K) fd
  f_Web__eq : ∃ fd, FunD K "__eq__" "Web.__eq__" (defArgs s_Web__eq) (defBody s_Web__eq) (defScope s_Web__eq) [] [] (a_Web__eq K) fd
  f_Web__add : ∃ fd, FunD K "__add__" "Web.__add__" (defArgs s_Web__add) (defBody s_Web__add) (defScope s_Web__add) [] [] (a_Web__add K) fd
  f_Web__sub : ∃ fd, FunD K "__sub__" "Web.__sub__" (defArgs s_Web__sub) (defBody s_Web__sub) (defScope s_Web__sub) [] [] (a_Web__sub K) fd
  f_Web__mul : ∃ fd, FunD K "__mul__" "Web.__mul__" (defArgs s_Web__mul) (defBody s_Web__mul) (defScope s_Web__mul) [] [] (a_Web__mul K) fd
  f_Web__rmul : ∃ fd, FunD K "__rmul__" "Web.__rmul__" (defArgs s_Web__rmul) (defBody s_Web__rmul) (defScope s_Web__rmul) [] [] (a_Web__rmul K) fd
  f_Web_within : ∃ fd, FunD K "within" "Web.within" (defArgs s_Web_within) (defBody s_Web_within) (defScope s_Web_within) [] [] (a_Web_within K) fd
  f_Web_crossing : ∃ fd, FunD K "crossing" "Web.crossing" (defArgs s_Web_crossing) (defBody s_Web_crossing) (defScope s_Web_crossing) [] [] (a_Web_crossing K) fd
  f_beside : ∃ fd, FunD K "beside" "beside" (defArgs s_beside) (defBody s_beside) (defScope s_beside) [] [] (a_beside K) fd
  f_renamed : ∃ fd, FunD K "renamed" "renamed" (defArgs s_renamed) (defBody s_renamed) (defScope s_renamed) [] [] (a_renamed K) fd
  f_moved : ∃ fd, FunD K "moved" "moved" (defArgs s_moved) (defBody s_moved) (defScope s_moved) [] [] (a_moved K) fd
  f_law_bag : ∃ fd, FunD K "_law_bag" "_law_bag" (defArgs s_law_bag) (defBody s_law_bag) (defScope s_law_bag) [] [] (a_law_bag K) fd
  f_law_take : ∃ fd, FunD K "_law_take" "_law_take" (defArgs s_law_take) (defBody s_law_take) (defScope s_law_take) [] [] (a_law_take K) fd
  f_law_mixed : ∃ fd, FunD K "_law_mixed" "_law_mixed" (defArgs s_law_mixed) (defBody s_law_mixed) (defScope s_law_mixed) [] [] (a_law_mixed K) fd
  f_law_web : ∃ fd, FunD K "_law_web" "_law_web" (defArgs s_law_web) (defBody s_law_web) (defScope s_law_web) [] [] (a_law_web K) fd
  f_law_sum : ∃ fd, FunD K "_law_sum" "_law_sum" (defArgs s_law_sum) (defBody s_law_sum) (defScope s_law_sum) [] [] (a_law_sum K) fd
  f_law_fits : ∃ fd, FunD K "_law_fits" "_law_fits" (defArgs s_law_fits) (defBody s_law_fits) (defScope s_law_fits) [] [] (a_law_fits K) fd
  f_law_counts_right : ∃ fd, FunD K "_law_counts_right" "_law_counts_right" (defArgs s_law_counts_right) (defBody s_law_counts_right) (defScope s_law_counts_right) [] [] (a_law_counts_right K) fd
  f_law_sums_right : ∃ fd, FunD K "_law_sums_right" "_law_sums_right" (defArgs s_law_sums_right) (defBody s_law_sums_right) (defScope s_law_sums_right) [] [] (a_law_sums_right K) fd
  f_law : ∃ fd, FunD K "law" "law" (defArgs s_law) (defBody s_law) (defScope s_law) [] [] (a_law K) fd
end CL
set_option maxHeartbeats 4000000
/-! DM28: the head's Hook, its objects gathered by a walk that marks what it has seen in one number. -/
namespace CT
open PySem L2 PySem.Spec PyProof.Rows
theorem obGb_eq {n : Nat} {fs : List (PySem.W.Frag → Bool)} {fn : List DefX} (s : PySem.W.SharedT) : obGb n fs fn (HandSHeadRun.getT s) = (hookXb n fs fn).obs s.abs := by
  have e : HandSHeadRun.getT s = s.abs.heap.get? := funext (HandSHeadRun.getT_eq s)
  rw [e]
  rfl
end CT
set_option maxHeartbeats 0
namespace CL
open PySem L2 PySem.Spec PyProof.Rows CT
section
open HandSHeadRun PySem.W PySem.Calls
end
end CL
set_option maxHeartbeats 4000000
/-! DM3: is True; t * n; bool(o) by the class's own __bool__; a or b of tuples, bool(t). -/
namespace CT
open PySem L2 PySem.Spec PyProof.Rows
/-! ### t * n -/
/-! ### a or b of tuples; bool(t) -/
end CT
set_option maxHeartbeats 4000000
/-! DM4: bool(o) by the class's own __bool__. -/
namespace CT
open PySem L2 PySem.Spec PyProof.Rows
/-! ### bool(o) -/
end CT
set_option maxHeartbeats 4000000
/-! DM5: zip of two tuples; min and max of a list of ints with a default. -/
namespace CT
open PySem L2 PySem.Spec PyProof.Rows RZ
def zipD (xs ys : List D) : List D := (xs.zip ys).map fun p => .tup [p.1, p.2]
end CT
set_option maxHeartbeats 4000000
/-! DM6: min and max of a list of ints with a default. -/
namespace CT
open PySem L2 PySem.Spec PyProof.Rows
end CT
set_option maxHeartbeats 4000000
/-! DM7: x + k, k + x, x - k, k - x, -x for an own x and an int k. -/
namespace CT
open PySem L2 PySem.Spec PyProof.Rows PySem.W
end CT
set_option maxHeartbeats 4000000
/-! DM8: list(range(a, b, 2)); sorted(set(xs)), len(set(xs)) of up to 4,000 ints. -/
namespace CT
open PySem L2 PySem.Spec PyProof.Rows
/-! ### sets of more ints -/
end CT
set_option maxHeartbeats 4000000
/-! DM9: xs[i], ys[j] = e, f. -/
namespace CT
open PySem L2 PySem.Spec PyProof.Rows
end CT
set_option maxHeartbeats 4000000
/-! DM10: a def that hands back an own list, as an equation. -/
namespace CT
open PySem L2
end CT
set_option maxHeartbeats 4000000
/-! DM11: {x for u in a if .. for x in b if ..} of ints, two clauses; its members in a list beside the heap. -/
namespace CT
open PySem L2 PySem.Spec PyProof.Rows
/-- the set at D holds the ints of acc -/
def SetI (w : World) (h : Heap) (D : Addr) (acc : List Int) : Prop := ∃ c, c ≤ acc.length ∧ SetR w h D (fun j => decide (j ∈ acc)) c
theorem SetI.at {w : World} {h h' : Heap} {D : Addr} {acc : List Int} (R : SetI w h D acc) (k : ∀ o, h.get? D = some o → h'.get? D = some o) : SetI w h' D acc := by
  obtain ⟨c, hc, R⟩ := R
  exact ⟨c, hc, R.at k⟩
theorem SetI.obj {w : World} {h : Heap} {D : Addr} {acc : List Int} (R : SetI w h D acc) : ∃ o, h.get? D = some o ∧ ∀ v, o.data ≠ .cell v := by
  obtain ⟨c, hc, o, es, ep, t, ho, hx, hd, _⟩ := R
  exact ⟨o, ho, fun v z => by rw [hd] at z; cases z⟩
end CT
set_option maxHeartbeats 4000000
/-! DM12: sorted({x for u in a if .. for x in b if ..}) over data. -/
namespace CT
open PySem L2 PySem.Spec PyProof.Rows
end CT
set_option maxHeartbeats 4000000
/-! DM13: min and max of one list of ints, not empty. -/
namespace CT
open PySem L2 PySem.Spec PyProof.Rows
end CT
set_option maxHeartbeats 4000000
/-! DM14: in, not in by an own __contains__, as values and as tests. -/
namespace CT
open PySem L2 PySem.Spec PyProof.Rows
end CT
set_option maxHeartbeats 4000000
/-! DM15: == and != of two lists of own objects that are equal item by item. -/
namespace CT
open PySem L2 PySem.Spec PyProof.Rows
end CT
set_option maxHeartbeats 4000000
/-! DM16: an own object as a test, by the class's own __bool__. -/
namespace CT
open PySem L2 PySem.Spec PyProof.Rows
end CT
set_option maxHeartbeats 4000000
/-! DM17: xs.reverse(). -/
namespace CT
open PySem L2 PySem.Spec PyProof.Rows
end CT
set_option maxHeartbeats 4000000
/-! DM18: while, of at most so many turns. -/
namespace CT
open PySem L2
end CT
set_option maxHeartbeats 4000000
/-! DM19: a def that hands back data with own lists and dicts inside: all become plain data. -/
namespace CT
open PySem L2 PySem.Spec PyProof.Rows
end CT
set_option maxHeartbeats 4000000
/-! DM20: == of two tuples of own objects that are equal item by item. -/
namespace CT
open PySem L2 PySem.Spec PyProof.Rows
end CT
set_option maxHeartbeats 4000000
/-! DM21: sum of a tuple of ints. -/
namespace CT
open PySem L2 PySem.Spec PyProof.Rows
end CT
set_option maxHeartbeats 4000000
/-! DM22: try with several clauses, each with a name (the same slot); each clause's suite returns. -/
namespace CT
open PySem L2 PySem.Spec PyProof.Rows
/-! ### repr in a clause's suite -/
end CT
set_option maxHeartbeats 4000000
/-! DM23: x += y, x -= y of a name that holds an instance with an own __iadd__, __isub__. -/
namespace CT
open PySem L2 PySem.Spec PyProof.Rows
end CT
set_option maxHeartbeats 4000000
/-! DM24a: what the head says for DM24. -/
namespace CT
open PySem L2 PySem.Spec PyProof.Rows
end CT
set_option maxHeartbeats 4000000
/-! DM24: x[i] = v, x[i] += v by own __getitem__, __setitem__; == and != with an instance of another own class. -/
namespace CT
open PySem L2 PySem.Spec PyProof.Rows
end CT
set_option maxHeartbeats 4000000
/-! DM25: sorted(set(list of pairs of ints from 0 to 63)); list(d) of a dict with tuple keys. -/
namespace CT
open PySem L2 PySem.Spec PyProof.Rows
/-! ### list(d) -/
end CT
set_option maxHeartbeats 4000000
/-! DM32: d[k] += e on a dict with tuple keys; x *= e of ints. -/
namespace CT
open PySem L2
end CT
set_option maxHeartbeats 4000000
/-! DM33: zip of two sequences, each a list or a tuple. -/
namespace CT
open PySem L2 PySem.Spec PyProof.Rows
/-- a list (false) or a tuple (true) -/
def SqX (t : Bool) (K : PySem.W.Frag) (H : Hp) (a : Addr) (xs : List V) : Prop := match t with
  | true => SqT K H a xs
  | false => SqL K H a xs
def isX (t : Bool) (h : Heap) (a : Addr) (its : Array Value) : Prop := match t with
  | true => h.IsTuple a its
  | false => h.IsList a its
def itX (t : Bool) (h : Heap) (it a : Addr) (i : Nat) : Prop := match t with
  | true => h.IsTupleIter it a i
  | false => h.IsListIter it a i
def itoX (t : Bool) (a : Addr) : Obj := match t with
  | true => { cls := .type "tuple_iterator", data := .fields #[.ref a, .int 0 0] }
  | false => { cls := .type "list_iterator", data := .fields #[.ref a, .int 0 0] }
section
variable {t : Bool} {h h' : Heap} {a it : Addr} {i : Nat} {its : Array Value} {X : Cx} {pins : List (Addr × Obj)} {σ : L2.St} {H : Hp} {s : Shared} {xs ys : List V}
theorem itX_at (x : itX t h it a i) (k : ∀ o, h.get? it = some o → h'.get? it = some o) : itX t h' it a i := by
  cases t
  · exact Heap.IsListIter.at x k
  · exact Heap.IsTupleIter.at x k
theorem itX_obj (x : itX t h it a i) : ∃ o, h.get? it = some o ∧ ∀ v, o.data ≠ .cell v := by
  cases t
  · obtain ⟨o, e, _, d⟩ := x
    exact ⟨o, e, fun v q => by rw [d] at q; cases q⟩
  · obtain ⟨o, e, _, d⟩ := x
    exact ⟨o, e, fun v q => by rw [d] at q; cases q⟩
theorem itX_new {n : Addr} (e : h.get? n = some (itoX t a)) : itX t h n a 0 := by
  cases t
  · exact ⟨_, e, rfl, rfl⟩
  · exact ⟨_, e, rfl, rfl⟩
theorem isX_lt (x : isX t h a its) : a < h.objs.size := by
  cases t
  · obtain ⟨o, e, _⟩ := x
    exact Heap.lt_size e
  · obtain ⟨o, e, _⟩ := x
    exact Heap.lt_size e
theorem drX {prog : Program} {w : World} {A : Around} (hh : A.handled = none) (hne : a ≠ it) : Draws prog w A it [it, a] its.size (fun i v => its[i]? = some v) (fun i h => itX t h it a i ∧ isX t h a its) := by
  cases t
  · exact Draws.list hh it a hne its
  · exact Draws.tuple hh it a hne its
theorem bgX (t : Bool) (a : Addr) (its : Array Value) : Begins (.ref a) (itoX t a) fun h => isX t h a its := by
  cases t
  · exact begins_list a its
  · exact begins_tuple a its
theorem sqX_in (I : Inv X pins σ H s) (q : SqX t X.K H a xs) : ∃ its : List Value, Vals xs its ∧ isX t s.heap a its.toArray := by
  cases t
  · obtain ⟨its, r, p, _⟩ := I.list q
    exact ⟨its, r, p.isList⟩
  · obtain ⟨its, r, p, _⟩ := I.tuple q
    exact ⟨its, r, p⟩
theorem sqX_inj (I : Inv X pins σ H s) (q : SqX t X.K H a xs) (q' : SqX t X.K H a ys) : xs = ys := by
  cases t
  · exact I.list_inj q q'
  · exact I.tuple_inj q q'
end
/-- the sequences at a and b as they stand at each turn, the items in new pairs -/
def ItzX (K : PySem.W.Frag) (t1 t2 : Bool) (a b : Addr) : It where
  go := fun i H => ∃ (xs ys : List V) (x y : V), SqX t1 K H a xs ∧ SqX t2 K H b ys ∧ xs[i]? = some x ∧ ys[i]? = some y
  yld := fun i H v H' => ∃ T x y, (v = .ref T ∧ H T = none ∧ H' = upd H T (.tup [x, y])) ∧ (∀ xs, SqX t1 K H a xs → xs[i]? = some x) ∧ ∀ ys, SqX t2 K H b ys → ys[i]? = some y
  stop := fun i H => ∃ xs ys : List V, SqX t1 K H a xs ∧ SqX t2 K H b ys ∧ i ≤ xs.length ∧ i ≤ ys.length ∧ (i = xs.length ∨ i = ys.length)
def zpN (t1 t2 : Bool) (a b z TI TO i1 i2 : Addr) (i : Nat) (h : Heap) : Prop :=
  IsZip h z TI TO .none ∧ IsTupOf2 h TI (.ref i1) (.ref i2) ∧ (∃ x y, IsTupOf2 h TO x y) ∧ itX t1 h i1 a i ∧ itX t2 h i2 b i
theorem turn_zipX {P : Program} {w : World} {K : PySem.W.Frag} {elts : List Expr} {kk : Nat} {tpos : Pos} {t1 t2 : Bool} {a b z TI TO i1 i2 : Addr} (S : ZipSep2 z TI TO i1 i2 [i1, a] [i2, b]) (ha : a ≠ i1) (hb : b ≠ i2) :
    Turn P w K (.Tuple elts kk tpos) (ItzX K t1 t2 a b) [z, TI, TO, i1, i2] z (zpN t1 t2 a b z TI TO i1 i2) where
  mem := List.mem_cons_self ..
  obj := fun i h st c hc => by
    obtain ⟨g1, g2, ⟨x, y, g3⟩, g4, g5⟩ := st
    simp only [List.mem_cons, List.not_mem_nil, or_false] at hc
    rcases hc with rfl | rfl | rfl | rfl | rfl
    · exact ⟨_, g1, fun v q => nomatch q⟩
    · exact ⟨_, g2, fun v q => nomatch q⟩
    · exact ⟨_, g3, fun v q => nomatch q⟩
    · exact itX_obj g4
    · exact itX_obj g5
  keep := fun i h h' st k => by
    obtain ⟨g1, g2, ⟨x, y, g3⟩, g4, g5⟩ := st
    exact ⟨k z (by simp) _ g1, k TI (by simp) _ g2, ⟨x, y, k TO (by simp) _ g3⟩, itX_at g4 (k i1 (by simp)), itX_at g5 (k i2 (by simp))⟩
  item := by
    intro X hP hw hK hc i pins s σ H E I hf st hg
    subst hP hw hK
    obtain ⟨g1, g2, ⟨x0, y0, g3⟩, g4, g5⟩ := st
    obtain ⟨xs, ys, x, y, qx, qy, ex, ey⟩ := hg
    obtain ⟨us, ru, pu⟩ := sqX_in I qx
    obtain ⟨ws, rw', pw⟩ := sqX_in I qy
    have l1 : i < us.toArray.size := by
      have := ru.length
      have := (List.getElem?_eq_some_iff.mp ex).1
      simp
      omega
    have l2 : i < ws.toArray.size := by
      have := rw'.length
      have := (List.getElem?_eq_some_iff.mp ey).1
      simp
      omega
    have low : ∀ c ∈ [z, TI, TO, i1, i2], c < s.heap.objs.size := fun c hcm => by
      simp only [List.mem_cons, List.not_mem_nil, or_false] at hcm
      obtain ⟨_, e4, _⟩ := itX_obj g4
      obtain ⟨_, e5, _⟩ := itX_obj g5
      rcases hcm with q | q | q | q | q
      · rw [q]; exact Heap.lt_size g1
      · rw [q]; exact Heap.lt_size g2
      · rw [q]; exact Heap.lt_size g3
      · rw [q]; exact Heap.lt_size e4
      · rw [q]; exact Heap.lt_size e5
    have zl := low z (by simp)
    refine wpAny_pyNext_zipD2_item S (drX (I.ok.hd hc) ha) (drX (I.ok.hd hc) hb) g1 g2 g3 ⟨g4, pu⟩ ⟨g5, pw⟩ l1 l2 fun u1 u2 h' tk e1 e2 z1 z2 z3 z4 z5 z6 z7 => ?_
    have e1 : us[i]? = some u1 := by simpa using e1
    have e2 : ws[i]? = some u2 := by simpa using e2
    obtain ⟨v1, f1, r1⟩ := ru.get ex
    obtain ⟨v2, f2, r2⟩ := rw'.get ey
    cases e1.symm.trans f1
    cases e2.symm.trans f2
    refine ⟨_, rfl, wpAny_letOwnedTupleGo_zip (s := { s with heap := h', toks := tk }) z1 fun h2 z8 sb => ?_⟩
    have new : ObjOk X.prog X.w (upd H s.heap.objs.size (.tup [x, y])) h2 s.heap.objs.size (.tup [x, y]) :=
      ⟨(by decide : 2 ≤ sizeLine), [u1, u2], .cons r1 (.cons r2 .nil), ⟨_, (sb.2 _ (Nat.ne_of_gt zl)).trans z5, rfl, _, rfl⟩⟩
    have I1 : Inv X pins σ (upd H s.heap.objs.size (.tup [x, y])) { s with heap := h2, toks := tk } :=
      I.turnedNew (ch := [z, TI, TO, i1, i2]) (fun c o hn q => by
        simp only [List.mem_cons, List.not_mem_nil, or_false, not_or] at hn
        exact (sb.2 c hn.1).trans (z7 c o hn.1 hn.2.2.1 hn.2.2.2.1 hn.2.2.2.2 q)) hf (Nat.le_refl _) new
    refine ⟨.ref s.heap.objs.size, _, I1, rfl, ⟨_, x, y, ⟨rfl, I.hok.fresh (Nat.le_refl _), rfl⟩, fun l hl => ?_, fun l hl => ?_⟩, ⟨z8, ?_, ⟨u1, u2, ?_⟩, ?_, ?_⟩, fun c hcm => ?_⟩
    · rw [sqX_inj I hl qx]; exact ex
    · rw [sqX_inj I hl qy]; exact ey
    · exact (sb.2 _ S.TIz).trans (z7 _ _ S.TIz S.TITO S.TIi1 S.TIi2 g2)
    · exact (sb.2 _ S.TOz).trans z2
    · exact itX_at z3.1 fun o q => (sb.2 _ (Ne.symm S.zi1)).trans q
    · exact itX_at z4.1 fun o q => (sb.2 _ (Ne.symm S.zi2)).trans q
    · rw [upd_ne (Nat.ne_of_lt (low c hcm))]
      exact (hf c hcm).1
  done := by
    intro X hP hw hK hc i pins s σ H E I hf st hg
    subst hP hw hK
    obtain ⟨g1, g2, ⟨x0, y0, g3⟩, g4, g5⟩ := st
    obtain ⟨xs, ys, qx, qy, n1, n2, ne⟩ := hg
    obtain ⟨us, ru, pu⟩ := sqX_in I qx
    obtain ⟨ws, rw', pw⟩ := sqX_in I qy
    have l1 := ru.length
    have l2 := rw'.length
    have s1 : us.toArray.size = us.length := by simp
    have s2 : ws.toArray.size = ws.length := by simp
    refine wpAny_pyNext_zipD2_end S (drX (I.ok.hd hc) ha) (drX (I.ok.hd hc) hb) g1 g2 g3 ⟨g4, pu⟩ ⟨g5, pw⟩ (by omega) (by omega) (by omega) fun h' tk hk => ⟨rfl, I.turnedL (ch := [z, TI, TO, i1, i2]) (fun c o hn q => ?_) hf⟩
    simp only [List.mem_cons, List.not_mem_nil, or_false, not_or] at hn
    exact hk c o hn.1 hn.2.2.1 hn.2.2.2.1 hn.2.2.2.2 q
  self := fun A i s Q E st h => wpAny_pyIter_zip st.1 h
def iZipX (K : PySem.W.Frag) (ta : TA) : TI := fun σ H R => ta σ H fun vs H1 => ∃ t1 t2 a b xs ys, vs = [.ref a, .ref b] ∧ SqX t1 K H1 a xs ∧ SqX t2 K H1 b ys ∧ R (ItzX K t1 t2 a b) H1
theorem pi_zipX {X : Cx} {e e2 : Expr} {ta : TA} {p pos tpos : Pos} {elts : List Expr} {kk : Nat} (hg : Gl X "zip") (hm : X.mg "zip" = none) (ha : PA X [e, e2] ta)
    (hs : starEach [e, e2] X.env = (false, eval e X.env) :: starEach [e2] X.env := by rfl) (hpl : (backTo pos (starEach [e2] X.env)).any (·.1) = false := by rfl) :
    PI X (.Tuple elts kk tpos) (.Call (.Name "zip" p) [e, e2] [] pos) (iZipX X.K ta) := by
  refine ⟨fun pins s σ H R I h => ?_⟩
  refine Call_ (ld_blt I hg hm boot_zip (callWith_type1 (thn (ha.run pos pins s σ H _ I h) fun us s1 ⟨vs, H1, I1, r1, q1⟩ => ?_) hs hpl))
  obtain ⟨t1, t2, a, b, xs, ys, rfl, qx, qy, q⟩ := q1
  cases r1 with
  | cons c1 rr =>
    cases rr with
    | cons c2 rr =>
      cases rr
      cases c1
      cases c2
      obtain ⟨i1, v1, p1⟩ := sqX_in I1 qx
      obtain ⟨i2, v2, p2⟩ := sqX_in I1 qy
      have la := isX_lt p1
      have lb := isX_lt p2
      have fr : ∀ c, c ∈ [s1.heap.objs.size + 4, s1.heap.objs.size + 2, s1.heap.objs.size + 3, s1.heap.objs.size, s1.heap.objs.size + 1] → FpOk X pins H1 c := fun c hcm => by
        have hle : s1.heap.objs.size ≤ c := by
          simp only [List.mem_cons, List.not_mem_nil, or_false] at hcm
          rcases hcm with q | q | q | q | q <;> rw [q]
          · exact Nat.le_add_right _ _
          · exact Nat.le_add_right _ _
          · exact Nat.le_add_right _ _
          · exact Nat.le_refl _
          · exact Nat.le_add_right _ _
        exact I1.fpOk hle (I1.hok.fresh hle)
      refine zip_begins2 (bgX t1 a i1.toArray) (bgX t2 b i2.toArray) p1 p2 fun h' z1 z2 z3 z4 z5 z6 z7 => wpAny_pyIter_zip z1 ?_
      exact ⟨_, _, _, _, H1, rfl, I1.kept (t' := s1.toks) z7, turn_zipX (zip_sep2 (fp1 := [a]) (fp2 := [b]) (by simpa using la) (by simpa using lb)) (Nat.ne_of_lt la) (Nat.ne_of_lt (Nat.lt_succ_of_lt lb)),
        ⟨z1, z2, ⟨_, _, z3⟩, itX_new z4, itX_new z5⟩, fr, q⟩
/-- zip over data: lists, own lists, tuples -/
def sqOf (d : D) (C : Store) : Option (Bool × List D) := match d with
  | .tup xs => some (true, xs)
  | .kt xs => some (true, xs)
  | .lst xs => some (false, xs)
  | _ => none
def mZipX (m : MA) : MI := fun F C => bnd (m F C) fun ds C1 => match ds with
  | [x, y] => (match sqOf x C1, sqOf y C1 with
    | some p, some q => .ok (itC (zipD p.2 q.2)) C1
    | _, _ => .stuck)
  | _ => .stuck
section
variable {X : Cx} {k : Cn} {W : WX} {σ : L2.St} {H : Hp}
theorem sqOf_at {A : Nat → Addr} {C : Store} {v : V} {d : D} {p : Bool × List D} (r : Rep k A C H v d) (e : sqOf d C = some p) : ∃ a vs, v = .ref a ∧ SqX p.1 k.K H a vs ∧ RepL k A C H vs p.2 := by
  cases d with
  | tup xs =>
    cases e
    obtain ⟨a, vs, rfl, hs, rl⟩ := vT_at r rfl
    exact ⟨a, vs, rfl, hs, rl⟩
  | kt xs =>
    cases e
    obtain ⟨a, vs, rfl, hs, rl⟩ := vT_at r rfl
    exact ⟨a, vs, rfl, hs, rl⟩
  | lst xs =>
    cases e
    cases r with
    | lst l hh rv => exact ⟨_, _, rfl, .inl (.inl hh), rv⟩
  | _ => cases e
theorem sqOf_st {d : D} {C C' : Store} : sqOf d C' = sqOf d C := by cases d <;> rfl
theorem itZ_X {fl : Nat} {A : Nat → Addr} {C : Store} {v w : V} {d e : D} {p q : Bool × List D} (r : Rep k A C H v d) (ed : sqOf d C = some p) (r2 : Rep k A C H w e) (ee : sqOf e C = some q) :
    ∃ a b vs ws, v = .ref a ∧ w = .ref b ∧ SqX p.1 k.K H a vs ∧ SqX q.1 k.K H b ws ∧ ItOk k fl (ItzX k.K p.1 q.1 a b) (itC (zipD p.2 q.2)) A C H := by
  obtain ⟨a, vs, rfl, hs, _⟩ := sqOf_at r ed
  obtain ⟨b, ws, rfl, hs2, _⟩ := sqOf_at r2 ee
  refine ⟨a, b, vs, ws, rfl, rfl, hs, hs2, fun A' C' H' st st' => ?_⟩
  obtain ⟨a', vs', ea, hl, rv⟩ := sqOf_at (st.rep _ _ r) (sqOf_st.trans ed)
  cases ea
  obtain ⟨b', ws', eb, hl2, rv2⟩ := sqOf_at (st.rep _ _ r2) (sqOf_st.trans ee)
  cases eb
  have zl : (zipD p.2 q.2).length = min p.2.length q.2.length := by simp [zipD]
  refine ⟨fun j y hj ey => ?_, fun _ => ⟨_, _, hl, hl2, ?_⟩⟩
  · have ey' : (zipD p.2 q.2)[j]? = some y := ey
    unfold zipD at ey'
    rw [List.getElem?_map] at ey'
    obtain ⟨c, hc, rfl⟩ := Option.map_eq_some_iff.mp ey'
    obtain ⟨h1, h2⟩ := List.getElem?_zip_eq_some.mp hc
    obtain ⟨u, hu, ru⟩ := rv.get h1
    obtain ⟨u2, hu2, ru2⟩ := rv2.get h2
    refine ⟨⟨_, _, u, u2, hl, hl2, hu, hu2⟩, fun x H'' ⟨T, z, z2, ⟨e1, hT, eH⟩, hz, hz2⟩ => ?_⟩
    subst e1 eH
    cases (hz _ hl).symm.trans hu
    cases (hz2 _ hl2).symm.trans hu2
    have kq : Kp A' C' H' A' C' (upd H' T (.tup [u, u2])) := kp_new hT
    have st2 := st'.new (o := .tup [u, u2]) hT
    exact ⟨A', kq.stp0, st2, .tup (tup_nl st2 upd_same) upd_same (.cons (ru.kp kq) (.cons (ru2.kp kq) .nil))⟩
  · have : (itC (zipD p.2 q.2)).n = min p.2.length q.2.length := zl
    rw [rv.length, rv2.length, this]
    omega
theorem li_zipX {ma : MA} {R : It → Hp → Prop} (h : LI k W (mZipX ma) σ H R) : iZipX k.K (LA k W ma) σ H R := by
  obtain ⟨A, F, C, s, h⟩ := h
  refine ⟨A, F, C, s, (Aft.bnd (rel := RepDs k) h).mono fun ds C1 A1 H1 vs p1 st1 r1 h1 => ?_⟩
  split at h1
  · rename_i x y
    split at h1
    · rename_i p q e1 e2
      have r1' : RepL k A1 C1 H1 vs [x, y] := r1
      cases r1' with
      | cons rx t =>
        cases t with
        | cons ry t =>
          cases t
          obtain ⟨a, b, us, ws, rfl, rfl, hs, hs2, ok⟩ := itZ_X (fl := F.fl) rx e1 ry e2
          exact ⟨_, _, a, b, us, ws, rfl, hs, hs2, h1 A1 H1 _ Stp.refl st1 ok⟩
    · exact h1.elim
  · exact h1.elim
theorem di_zipX {e e2 : Expr} {p pos tpos : Pos} {elts : List Expr} {kk : Nat} {ma : MA} (hg : Gl X "zip") (hm : X.mg "zip" = none) (hK : X.K = k.K) (ha : PA X [e, e2] (LA k W ma))
    (hs : starEach [e, e2] X.env = (false, eval e X.env) :: starEach [e2] X.env := by rfl) (hpl : (backTo pos (starEach [e2] X.env)).any (·.1) = false := by rfl) :
    PI X (.Tuple elts kk tpos) (.Call (.Name "zip" p) [e, e2] [] pos) (LI k W (mZipX ma)) := (pi_zipX hg hm ha hs hpl).cq fun _ _ _ h => by
  rw [hK]
  exact li_zipX h
end
end CT
set_option maxHeartbeats 4000000
/-! DM34: max of three integers; len of a dict keyed by tuples; sorted of a dict whose only key is the empty tuple. -/
namespace CT
open PySem L2 PySem.Spec PyProof.Rows
/-! ### sorted: the empty tuple alone -/
end CT
set_option maxHeartbeats 4000000
/-! DM35: zip of two sequences, own lists too: what stands in them is read at each turn. -/
namespace CT
open PySem L2 PySem.Spec PyProof.Rows
end CT
set_option maxHeartbeats 4000000
/-! DM36: sorted(set(t)): a tuple of integers. -/
namespace CT
open PySem L2 PySem.Spec PyProof.Rows
end CT
set_option maxHeartbeats 4000000
/-! DH1: within an except suite: (a, b) = e; own defs called. -/
namespace CT
open PySem L2 PySem.Spec PyProof.Rows HotX
section
variable {prog : Program} {w : World} {A : Around} {E : Value → Shared → Prop} {s : Shared} {x1 : Addr}
theorem next_tuple_endH {it t : Addr} {i : Nat} {items : Array Value} {Q : Option Value → Shared → Prop} (hot : HotAt A x1 s.heap) (ne : x1 ≠ it)
    (hit : IsTupIter s.heap it t i) (ht : IsTup s.heap t items) (hx : items[i]? = none)
    (hQ : ∀ h', Heap.ExtBut it s.heap h' → Q none { s with heap := h' }) : wpAny (model prog w) A (pyNext (.ref it)) Q E s := by
  obtain ⟨o, ho, hc, hd⟩ := id hit
  obtain ⟨ol, hol, _, nl, hdl⟩ := ht
  obtain ⟨hh, o1, vs1, h1, d1, c1⟩ := hot
  unfold pyNext
  refine wpAny_bind (wpAny_attempt (wpAny_callSpecial?_slot (name := Str.ofString "__next__") hit.typeIs slot_tupleiter_next
    (wpAny_call_entry slot_tupleiter_next hit.typeIs entry_tupleiter_next ?_ (args_tupleiter_next _))))
  show wpAny _ _ (field (.ref it) 0 >>= _) _ _ s
  refine wpAny_bind (wpAny_field ho hd (x := .ref t) rfl ?_)
  show wpAny _ _ (if (Value.ref t == Value.none) = true then _ else _) _ _ s
  rw [if_neg (show ¬ ((Value.ref t == Value.none) = true) from Bool.false_ne_true)]
  show wpAny _ _ (field (.ref it) 1 >>= _) _ _ s
  refine wpAny_bind (wpAny_field ho hd (x := .int i 0) rfl ?_)
  show wpAny _ _ (seqItems? (.ref t) >>= _) _ _ s
  refine wpAny_bind (wpAny_seqItems hol hdl ?_)
  simp only [Int.toNat_natCast, hx]
  refine wpAny_bind (wpAny_rule (wpAny_bind (wpAny_setField ho hd (by simp) ?_)))
  have h1' := (Heap.get?_update_other s.heap (Obj.mapFields (·.setIfInBounds 0 Value.none)) (Ne.symm ne)).trans h1
  show wpAny _ _ (newExc (.type "StopIteration") [] >>= _) _ _ _
  refine wpAny_bind ?_
  simp only [newExc, newTuple]
  refine wpAny_bind (wpAny_newObj_type ?_ (by size_fits))
  refine wpAny_bind (m := firstArgMember _ _) (wpAny_of_eq (a := Value.none) (by first | rfl | (simp only [firstArgMember]; rfl)) ?_)
  refine wpAny_newObj_type ?_ (by size_fits)
  have key : ∀ (g : Heap), g.get? x1 = some o1 → ∀ (d : Obj) (d2 : Obj), HotAt A.in1 x1 ((g.push d).push d2) := fun g hg d d2 => ⟨hh, o1, vs1, Heap.get?_push_of_some _ (Heap.get?_push_of_some _ hg), d1, c1⟩
  refine raiseNew_hot (key _ h1' _ _) (Nat.ne_of_lt (Heap.lt_size (Heap.get?_push_of_some _ h1'))) (Heap.get?_push_size _ rfl) rfl (by first | (simp; done) | (simp; omega) | (simp only [Array.size_append]; simp; omega)) ?_
  refine wpAny_bind (wpAny_isInstance (T := "StopIteration") (b := true) ⟨_, Heap.get?_update_self _ (Heap.get?_push_size _ rfl) rfl, rfl⟩ isSubtype_stop ?_)
  refine wpAny_pure (hQ _ fun b o hb e => ?_)
  have e1 := (Heap.get?_update_other s.heap (Obj.mapFields (·.setIfInBounds 0 Value.none)) (Ne.symm hb)).trans e
  rw [Heap.get?_update_other _ _ (Nat.ne_of_gt (Heap.lt_size (Heap.get?_push_of_some _ e1)))]
  exact Heap.get?_push_of_some _ (Heap.get?_push_of_some _ e1)
theorem HotAt.ext {h h' : Heap} {b : Addr} (x : HotAt A x1 h) (e : Heap.ExtBut b h h') (ne : x1 ≠ b) : HotAt A x1 h' := by
  obtain ⟨hh, o1, vs1, h1, d1, c1⟩ := x
  exact ⟨hh, o1, vs1, e x1 o1 ne h1, d1, c1⟩
theorem unpackItems_tupleH {t : Addr} {items : Array Value} {Q : List Value → Shared → Prop} (hot : HotAt A x1 s.heap) (ht : IsTup s.heap t items)
    (hQ : ∀ h', Heap.ExtBut s.heap.objs.size s.heap h' → Q items.toList { s with heap := h' }) : wpAny (model prog w) A (unpackItems (.ref t) items.size none) Q E s := by
  have hlt : t ≠ s.heap.objs.size := by obtain ⟨o, ho, _⟩ := ht; exact Nat.ne_of_lt (Heap.lt_size ho)
  have hlx : x1 ≠ s.heap.objs.size := by obtain ⟨_, o, _, ho, _⟩ := hot; exact Nat.ne_of_lt (Heap.lt_size ho)
  unfold unpackItems
  refine wpAny_bind ?_
  · unfold notIterableAtAll
    refine wpAny_bind (wpAny_specialOf ht.typeIs slot_tuple_iter.lookup ?_)
    refine wpAny_pure ?_
    simp only [Bool.false_eq_true, if_false]
    refine wpAny_bind (wpAny_holding (iter_tuple ht ?_))
    refine wpAny_bind (wpAny_holding (draw_tuple hlt items.size 0 _ _ ⟨_, Heap.get?_push_size _ rfl, rfl, rfl⟩ (ht.push _) (by omega) fun h₁ hit₁ hs₁ => ?_))
    have hall : List.take items.size (List.drop 0 items.toList) = items.toList := by
      rw [List.drop_zero]; exact List.take_of_length_le (by simp)
    rw [hall]
    rw [if_neg (by simp)]
    have ht₁ : IsTup h₁ t items := (ht.push _).extBut hs₁.extBut hlt
    have hot₁ : HotAt A x1 h₁ := by
      obtain ⟨hh, o1, vs1, h1, d1, c1⟩ := hot
      exact ⟨hh, o1, vs1, hs₁.extBut x1 o1 hlx (Heap.get?_push_of_some _ h1), d1, c1⟩
    refine wpAny_bind (wpAny_holding (next_tuple_endH hot₁ hlx hit₁ ht₁ (by simp) fun h₂ he₂ => ?_))
    simp only [Option.isSome_none, Bool.false_eq_true, if_false]
    refine wpAny_pure (hQ h₂ fun b o hb e => he₂ b o hb (hs₁.extBut b o hb (Heap.get?_push_of_some _ e)))
theorem assign_Tuple_tupleH {env : Env} {elts : List Expr} {x2} {pos : Pos} {t : Addr} {items : Array Value} {Q : Unit → Shared → Prop} (hot : HotAt A x1 s.heap) (ht : IsTup s.heap t items)
    (hn : (assignEach elts env).length = items.size) (hstar : (assignEach elts env).findIdx? (·.1) = none)
    (h : ∀ h', Heap.ExtBut s.heap.objs.size s.heap h' → wpAny (model prog w) A (assignInOrder ((assignEach elts env).map (·.2)) items.toList) Q E { s with heap := h' }) :
    wpAny (model prog w) A (assign (.Tuple elts x2 pos) env (.ref t)) Q E s := by
  rw [assign_Tuple]
  refine wpAny_bind (wpAny_standAt ?_)
  unfold unpack
  rw [hn, hstar]
  exact wpAny_bind (wpAny_holding (unpackItems_tupleH hot ht h))
end
section
variable {X : Cx} {k : Cn} {pos : Pos}
theorem pg_tupH {es : List Expr} {kk : Nat} {t : TGs} {n : Nat} (hc : L2H.HotC X) (h : PGs X es t)
    (hn : (assignEach es X.env).length = n := by rfl) (hst : (assignEach es X.env).findIdx? (·.1) = none := by rfl) : PG X (.Tuple es kk pos) (gTup X.K n t) := by
  refine ⟨fun pins s σ H v u Q I r hw => ?_⟩
  obtain ⟨a, xs, e1, hq, hl, hw⟩ := hw
  subst e1
  cases r
  obtain ⟨its, rv, ht, hz⟩ := I.tuple hq
  obtain ⟨x1, hot⟩ := hc.at I
  refine assign_Tuple_tupleH hot ht (by simp [hn, ← hl, rv.length]) hst fun h' hx => ?_
  have I1 : Inv X pins σ H { s with heap := h' } := I.kept (t' := s.toks) fun b o e => hx b o (Nat.ne_of_lt (Heap.lt_size e)) e
  exact h.run pins _ σ H xs _ Q I1 (by simpa using rv) hw
theorem tg_tpH {es : List Expr} {kk : Nat} (is : List Nat) (hK : X.K = k.K) (hc : L2H.HotC X) (h : PGs X es (gsN is)) (hn : (assignEach es X.env).length = is.length := by rfl) (hst : (assignEach es X.env).findIdx? (·.1) = none := by rfl) :
    PG X (.Tuple es kk pos) (Tgt.T k.K (.tp is)) := by
  have h' := pg_tupH (kk := kk) (pos := pos) hc h hn hst
  rw [hK] at h'
  exact h'
/-- the suite's context bears the handled error -/
theorem hotS {a : Addr} {oe : Obj} {cls : Value} {d : Option Addr} {pn : List (Addr × Obj)} (hz : Zc cls d oe) (hv : ∃ vs, oe.data = .fields vs) : L2H.HotC (X.suite a ((a, oe) :: pn)) := by
  obtain ⟨vs, h⟩ := hv
  exact ⟨(a, oe), ⟨rfl, vs, h, hz.2.2 vs h⟩, List.mem_cons_self⟩
end
/-! ### defs -/
structure RoomHG (lev : Nat) (A : Around) : Prop where
  room : L2H.RoomH lev A
  gd : A.guards = some []
theorem RoomHG.mono {i j : Nat} {A : Around} (r : RoomHG j A) (h : i ≤ j) : RoomHG i A := ⟨r.room.mono h, r.gd⟩
theorem RoomG.suite {j : Nat} {A : Around} (r : RoomG j A) (h : Option Value) : RoomHG j (A.mark h) := ⟨L2H.roomH_mark r.room h, r.gd⟩
theorem RoomHG.in1 {j : Nat} {A : Around} (r : RoomHG (j + 1) A) : RoomHG j A.in1 := ⟨⟨by have := r.room.dp; show A.depth + 3 * j + 5 < _; omega, by have := r.room.un; show A.units + 1 + 16 * j + 200 < _; omega⟩, r.gd⟩
/-- no error leaves a def that is called within a suite -/
abbrev E0H : XK := fun _ _ _ => False
structure FnGH (P : Program) (w : World) (K : PySem.W.Frag) (mg : Str → Option Value) (base : Heap) (lev : Nat) (f : Addr) (fd : FuncData) (ps : List Str) (sp : Sp) : Prop where
  len : ∀ vs H Q E, sp vs H Q E → vs.length = ps.length
  run : ∀ (A : Around) (outer : List Env) (s : Shared) (H : Hp) (args : Args) (us : List Value) (vs : List V) (Q : VK) (p : Addr × Obj), RoomHG lev A → L2H.Hot1 A p → L2H.PinOk outer H s p → Env0 P w K mg base A outer s H → BindsTo s fd args (ps.zip us) → Vals vs us → sp vs H Q E0H →
    codeAny (model P w) A (.call (.ref f) args) (CR (L2N.CX P w) outer P w H s Q E0H) s
theorem FnGH.mono {P : Program} {w : World} {K : PySem.W.Frag} {mg : Str → Option Value} {base : Heap} {i j : Nat} {f : Addr} {fd : FuncData} {ps : List Str} {sp : Sp} (F : FnGH P w K mg base i f fd ps sp) (h : i ≤ j) : FnGH P w K mg base j f fd ps sp :=
  ⟨F.len, fun A outer s H args us vs Q p hr => F.run A outer s H args us vs Q p (hr.mono h)⟩
/-- the context of such a def's body -/
abbrev cxHG (P : Program) (w : World) (K : PySem.W.Frag) (mg : Str → Option Value) (base : Heap) (N : List Str) (qual : Str) (scope : Scope) (f : Addr) (cd : Value) (A : Around) (outer : List Env) (s : Shared) (H : Hp) (p : Addr × Obj) : Cx :=
  L2H.cxH (L2N.CX P w) P w K mg base N qual scope f cd A outer s H E0H p
theorem fn_ofGH {P : Program} {w : World} {K : PySem.W.Frag} {mg : Str → Option Value} {base : Heap} {lev : Nat} {f : Addr} {name qual : Str} {params : Arguments} {body : List Stmt} {scope : Scope} {dV kV doc pm cdv ct oc : Value} {an od : Option Addr}
    {osl : Array (Option Value)} {N ps : List Str} {sp : Sp} (lk : K.lookup f = some ⟨oc, od, .func (PySem.W.fnOf name qual params body scope dV kV doc pm an cdv ct), osl⟩) (hcd : PySem.W.codeIn K cdv qual = true) (S : FnScope N ps scope)
    (len : ∀ vs H Q E, sp vs H Q E → vs.length = ps.length)
    (hbody : ∀ (A : Around) (outer : List Env) (s : Shared) (H : Hp) (vs : List V) (Q : VK) (p : Addr × Obj), L2H.Hot1 A p → RoomHG lev (A.deeper (envOfC qual scope s.heap.objs.size f cdv)) → sp vs H Q E0H →
      ∃ t, PSs (cxHG P w K mg base N qual scope f cdv A outer s H p) body t ∧ t { nx := fun _ H' => Q .non H', rt := Q } (L2.start N vs) H) :
    FnGH P w K mg base (lev + 1) f (PySem.W.fnOf name qual params body scope dV kV doc pm an cdv ct) ps sp := by
  refine ⟨len, fun A outer s H args us vs Q p hr hot hpin e0 hb r hsp => ?_⟩
  have hl := len _ _ _ _ hsp
  have KX : K.In s.heap := e0.mod.kin.keeps fun b o e => (e0.bs b o e).1
  have lim : s.heap.NoLimit := e0.mod.nolimit.keeps fun b o e => (e0.bs b o e).1
  have hkind : ∀ y ∈ ps.zip us, scope.names.lookup y.1 = some .local ∨ (scope.names.lookup y.1 = some .cell ∧ ((cellsFrom (s.heap.objs.size + 1) scope.names []).lookup y.1).isSome = true) := fun ⟨n, v⟩ hy => by
    rcases S.par n (List.of_mem_zip hy).1 with q | q
    · exact .inl q
    · exact .inr ⟨q, PySem.W.cellsFrom_some _ _ _ (.inl q)⟩
  refine codeAny_call_function hr.room.depth (KX _ _ lk) rfl S.co S.gen rfl (PySem.W.codeRec_of KX hcd) (hb _ _ _ _ ?_)
  refine wpAny_newFunctionEnv_cells S.kind hkind fun env he s1 x => ?_
  subst he
  refine ⟨lim.keeps x.toInCall.keep, codeAny_func ?_⟩
  obtain ⟨t, ht, hq⟩ := hbody A outer s H vs Q p hot ⟨hr.room.deeper _, hr.gd⟩ hsp
  have I : Inv (cxHG P w K mg base N qual scope f cdv A outer s H p) [] (L2.start N vs) H s1 := L2H.inv_startH S hpin e0 hl r x
  refine wpAny_mono (ht.run [] s1 (L2.start N vs) H _ I hq) (fun fl s' hs => ?_) fun e s' hs => hs
  have fin : ∀ {σ' : L2.St} {H' : Hp} {v : V} {u : Value}, Inv (cxHG P w K mg base N qual scope f cdv A outer s H p) [] σ' H' s' → RelV v u → Q v H' → CE outer P w H s Q u s' :=
    fun {σ' H' v u} J rv q => ⟨v, H', J.os, J.bare, J.base, J.hok, rv, q⟩
  cases fl with
  | ret u =>
    obtain ⟨v, σ', H', J, rv, q⟩ := hs
    exact fin J rv q
  | next =>
    obtain ⟨σ', H', J, q⟩ := hs
    exact fin (v := V.non) (u := Value.none) J rfl q
  | brk =>
    obtain ⟨_, _, _, q⟩ := hs
    exact False.elim q
  | cont =>
    obtain ⟨_, _, _, q⟩ := hs
    exact False.elim q
theorem noTkH {X : Cx} : Takes X WF := fun _ _ ⟨_, _, _, _, _, _, _, _, _, _, _, _, _, _, _, _, h⟩ => h.elim
section
variable {P : Program} {w : World} {k : Cn} {mg : Str → Option Value} {base : Heap} {x qual : Str} {params : Arguments} {body : List Stmt} {scope : Scope} {dvs : List V} {kws : List (Str × V)} {f : Addr} {fd : FuncData}
/-- THE RULE for a def that is called within a suite -/
theorem fn_okH {N ps : List Str} {lev : Nat} {m : MS} (F : FunD k.K x qual params body scope dvs kws f fd) (S : FnScope N ps scope) (hp : ps.length ≤ N.length)
    (hb : ∀ (cdv : Value) (A : Around) (outer : List Env) (s : Shared) (H : Hp) (p : Addr × Obj), RoomHG lev (A.deeper (envOfC qual scope s.heap.objs.size f cdv)) → L2H.HotC (cxHG P w k.K mg base N qual scope f cdv A outer s H p) → PSs (cxHG P w k.K mg base N qual scope f cdv A outer s H p) body (LS k WF m)) :
    FnGH P w k.K mg base (lev + 1) f fd ps (SpD k ps.length (mDef ps.length N.length m)) := by
  obtain ⟨oc, od, dV, kV, doc, pm, an, cdv, ct, osl, rfl, lk, hcd, _, _⟩ := F.ex
  exact fn_ofGH lk hcd S (fun vs H Q E h => h.1) fun A outer s H vs Q p hot hr h => ⟨_, hb cdv A outer s H p hr ⟨p, hot, List.mem_cons_self⟩, spD_body rfl hp h⟩
end
/-! ### calls -/
section
variable {X : Cx} {k : Cn} {σ : L2.St} {H : Hp} {Q : VK} {lev : Nat} {f g C : Addr} {fd : FuncData} {ps : List Str} {np : Nat} {m : MF} {x : Str} {pn pos apos : Pos} {e o b : Expr} {es : List Expr} {ma : MA} {mo me : ME} {sp : Sp} {t : TA} {ta tb : TE}
theorem run_fnGH {A' : Around} {pins : List (Addr × Obj)} {s : Shared} {us : List Value} {vs : List V} {p : Addr × Obj} (F : FnGH X.prog X.w X.K X.mg X.base lev f fd ps sp) (hr : RoomHG lev A') (hot : L2H.Hot1 A' p) (hp : p ∈ X.pn) (e0 : Env0 X.prog X.w X.K X.mg X.base A' X.stack s H) (hb : Binds X.K fd ps [])
    (I : Inv X pins σ H s) (r : Vals vs us) (h : sp vs H Q E0H) : wpAny (model X.prog X.w) A' (call (.ref f) us) (EP X pins σ Q) X.xe s := by
  have hl : us.length = ps.length := by rw [← r.length]; exact F.len _ _ _ _ h
  have B := hb s us I.kIn (by rw [List.append_nil]; exact hl)
  rw [List.append_nil] at B
  have P1 := I.pin p (List.mem_append_left _ hp)
  have hpin : L2H.PinOk X.stack H s p := ⟨P1.1, P1.2.1, fun hm => (List.mem_cons.mp (I.stkSub p.1 hm)).elim P1.2.2.1 P1.2.2.2.1, P1.2.2.2.2⟩
  refine wpAny_call (codeAny_mono (F.run A' X.stack s H ⟨us, []⟩ us vs Q p hr hot hpin e0 B r h) fun r s' hq => ?_)
  cases r with
  | error e => exact passAt (W := WF) noTkH σ pins H s e s' I hq
  | ok fl =>
    cases fl with
    | ret u => exact I.after hq
    | next => exact False.elim hq
    | brk => exact False.elim hq
    | cont => exact False.elim hq
/-- o[e] by an own __getitem__ -/
theorem pe_ixOH (hs : PySem.W.findIn X.K (.ref C) "__getitem__" = some (some (.ref g))) (hfn : PySem.W.fnIn X.K g = true) (hf : PySem.W.isFn X.K (.ref g) = true) (F : FnGH X.prog X.w X.K X.mg X.base lev g fd ps sp) (hr : RoomHG (lev + 1) X.A) (hc : L2H.HotC X) (hb : Binds X.K fd ps [])
    (ha : PE X o ta) (hbb : PE X b tb) (hsl : ∀ v i, subscripted b true v i = runValue (.builtin "lifetime.subscript" ⟨[v, i], []⟩)) : PE X (.Subscript o b pos) (tIxO C sp (fun _ => E0H) ta tb) := by
  refine ⟨fun pins s σ H Q I h => ?_⟩
  obtain ⟨p, hot, hp⟩ := hc
  refine Subscript_ (binT ha hbb I h fun v u s2 x y H2 I2 rx ry q => ?_)
  obtain ⟨a, dx, fs, ex, hi, q⟩ := q
  subst ex
  cases (show v = Value.ref a from rx)
  obtain ⟨mA, O, _, _, _, _⟩ := ins_get I2.hok hi
  obtain ⟨od, J, _⟩ := O.look
  obtain ⟨mm, hF⟩ := I2.fr
  exact PySem.W.sub_K hF I2.ok.mod.kin J hs hfn hf (run_fnGH (us := [.ref a, u]) (vs := [.ref a, y]) F hr.in1 ⟨hot.1, hot.2⟩ hp I2.env0.in1 hb I2 (.cons rfl (.cons ry .nil)) q) (hsl _ _)
theorem de_ixOH (c : Nat) (hK : X.K = k.K) (ha : PE X o (LE k WF mo)) (hbb : PE X b (LE k WF me)) (hs : PySem.W.findIn k.K (.ref (k.cl c)) "__getitem__" = some (some (.ref g))) (hfn : PySem.W.fnIn k.K g = true) (hf : PySem.W.isFn k.K (.ref g) = true) (F : FnGH X.prog X.w X.K X.mg X.base lev g fd ps (SpD k np m)) (ar : Ar np m) (hr : RoomHG (lev + 1) X.A) (hc : L2H.HotC X) (hb : Binds X.K fd ps [])
    (hsl : ∀ v i, subscripted b true v i = runValue (.builtin "lifetime.subscript" ⟨[v, i], []⟩) := by intros; with_unfolding_all rfl) : PE X (.Subscript o b pos) (LE k WF (mIxO c m mo me)) :=
  (pe_ixOH (by rw [hK]; exact hs) (by rw [hK]; exact hfn) (by rw [hK]; exact hf) F hr hc hb ha hbb hsl).cq fun _ _ _ h => le_ixO ar h
end
/-! ### a if t else b, where its truth is asked -/
def tIfM (t a b : MT) : MT := fun F C => bnd (t F C) fun x C1 => if x = true then a F C1 else b F C1
def tIfT (c t u : TT) : TT := fun σ H Q => c σ H fun b H1 => if b = true then t σ H1 Q else u σ H1 Q
section
variable {X : Cx} {k : Cn} {W : WX} {σ : L2.St} {H : Hp} {c a b : Expr} {pos : Pos} {tc t u : TT} {mc ma mb : MT}
theorem pt_ifx (hc : PT X c tc) (ha : PT X a t) (hb : PT X b u) : PT X (.IfExp c a b pos) (tIfT tc t u) := by
  refine ⟨fun pins s σ H Q I h => ?_⟩
  refine isTrue_IfExp (thn (hc.run pins s σ H _ I h) fun d s1 ⟨H1, I1, q1⟩ => ?_)
  cases d with
  | true => exact ha.run pins s1 σ H1 Q I1 q1
  | false => exact hb.run pins s1 σ H1 Q I1 q1
theorem lt_ifx {Q : Bool → Hp → Prop} (h : LT k W (tIfM mc ma mb) σ H Q) : tIfT (LT k W mc) (LT k W ma) (LT k W mb) σ H Q := by
  obtain ⟨A, F, C, s, h⟩ := h
  refine ⟨A, F, C, s, (Aft.bnd (rel := RepB) h).mono fun dx C1 A1 H1 x p1 st1 rx h1 => ?_⟩
  have rx : x = dx := rx
  subst rx
  cases x with
  | true => exact iteT ⟨A1, F, C1, s.step p1 st1, h1⟩
  | false => exact iteF ⟨A1, F, C1, s.step p1 st1, h1⟩
theorem dt_ifx (hc : PT X c (LT k W mc)) (ha : PT X a (LT k W ma)) (hb : PT X b (LT k W mb)) : PT X (.IfExp c a b pos) (LT k W (tIfM mc ma mb)) := (pt_ifx hc ha hb).cq fun _ _ _ h => lt_ifx h
end
end CT
set_option maxHeartbeats 8000000
namespace CL
open PySem L2 PySem.Spec PyProof.Rows CT
noncomputable section
theorem txt {K : PySem.W.Frag} {h : Heap} {mg : Str → Option Value} (X : K.In h) (G : h.Ns mainGlobals mg) (c : SaysX fs fn K) : Txt K mg where
  n_abs := He.free_ok X G (c.fact 0 (f := (He.Fa.free "abs").ok) rfl)
  n_all := He.free_ok X G (c.fact 1 (f := (He.Fa.free "all").ok) rfl)
  n_any := He.free_ok X G (c.fact 2 (f := (He.Fa.free "any").ok) rfl)
  n_bool := He.free_ok X G (c.fact 3 (f := (He.Fa.free "bool").ok) rfl)
  n_enumerate := He.free_ok X G (c.fact 4 (f := (He.Fa.free "enumerate").ok) rfl)
  n_int := He.free_ok X G (c.fact 5 (f := (He.Fa.free "int").ok) rfl)
  n_isinstance := He.free_ok X G (c.fact 6 (f := (He.Fa.free "isinstance").ok) rfl)
  n_len := He.free_ok X G (c.fact 7 (f := (He.Fa.free "len").ok) rfl)
  n_list := He.free_ok X G (c.fact 8 (f := (He.Fa.free "list").ok) rfl)
  n_max := He.free_ok X G (c.fact 9 (f := (He.Fa.free "max").ok) rfl)
  n_min := He.free_ok X G (c.fact 10 (f := (He.Fa.free "min").ok) rfl)
  n_range := He.free_ok X G (c.fact 11 (f := (He.Fa.free "range").ok) rfl)
  n_repr := He.free_ok X G (c.fact 12 (f := (He.Fa.free "repr").ok) rfl)
  n_sum := He.free_ok X G (c.fact 13 (f := (He.Fa.free "sum").ok) rfl)
  n_tuple := He.free_ok X G (c.fact 14 (f := (He.Fa.free "tuple").ok) rfl)
  n_zip := He.free_ok X G (c.fact 15 (f := (He.Fa.free "zip").ok) rfl)
  c_MOST := He.int_ok X G (c.fact 16 (f := (He.Fa.int "MOST" 1000000000).ok) rfl)
  g_is_integer := He.glo_ok X G (c.fact 17 (f := (He.Fa.glo "is_integer").ok) rfl)
  g_is_count := He.glo_ok X G (c.fact 18 (f := (He.Fa.glo "is_count").ok) rfl)
  g_is_tie := He.glo_ok X G (c.fact 19 (f := (He.Fa.glo "is_tie").ok) rfl)
  g_summed := He.glo_ok X G (c.fact 20 (f := (He.Fa.glo "summed").ok) rfl)
  g_grid_of := He.glo_ok X G (c.fact 21 (f := (He.Fa.glo "grid_of").ok) rfl)
  g_beside := He.glo_ok X G (c.fact 22 (f := (He.Fa.glo "beside").ok) rfl)
  g_renamed := He.glo_ok X G (c.fact 23 (f := (He.Fa.glo "renamed").ok) rfl)
  g_moved := He.glo_ok X G (c.fact 24 (f := (He.Fa.glo "moved").ok) rfl)
  g_law_bag := He.glo_ok X G (c.fact 25 (f := (He.Fa.glo "_law_bag").ok) rfl)
  g_law_take := He.glo_ok X G (c.fact 26 (f := (He.Fa.glo "_law_take").ok) rfl)
  g_law_mixed := He.glo_ok X G (c.fact 27 (f := (He.Fa.glo "_law_mixed").ok) rfl)
  g_law_web := He.glo_ok X G (c.fact 28 (f := (He.Fa.glo "_law_web").ok) rfl)
  g_law_sum := He.glo_ok X G (c.fact 29 (f := (He.Fa.glo "_law_sum").ok) rfl)
  g_law_fits := He.glo_ok X G (c.fact 30 (f := (He.Fa.glo "_law_fits").ok) rfl)
  g_law_counts_right := He.glo_ok X G (c.fact 31 (f := (He.Fa.glo "_law_counts_right").ok) rfl)
  g_law_sums_right := He.glo_ok X G (c.fact 32 (f := (He.Fa.glo "_law_sums_right").ok) rfl)
  g_law := He.glo_ok X G (c.fact 33 (f := (He.Fa.glo "law").ok) rfl)
  g_Web := He.glo_ok X G (c.fact 34 (f := (He.Fa.glo "Web").ok) rfl)
  cl_Web := He.cls_ok (c.fact 35 (f := (He.Fa.cls "Web").ok) rfl)
  no_Web_size := He.noat_ok (c.fact 36 (f := (He.Fa.noat "Web" "size").ok) rfl)
  no_Web_grid := He.noat_ok (c.fact 37 (f := (He.Fa.noat "Web" "grid").ok) rfl)
  no_Web_ties := He.noat_ok (c.fact 38 (f := (He.Fa.noat "Web" "ties").ok) rfl)
  mk_Web := He.mkr_ok (c.fact 39 (f := (He.Fa.mkr "Web").ok) rfl)
  kt_Web__init := ktB_ok (c.fact 40 (f := ktB d_Web__init) rfl)
  pr_total := prB_ok (c.fact 41 (f := prB "Web" "total") rfl)
  pr_degrees := prB_ok (c.fact 42 (f := prB "Web" "degrees") rfl)
  dn_Web__getitem := dnB_ok (c.fact 43 (f := dnB "Web" "__getitem__") rfl)
  dn_Web__eq := dnB_ok (c.fact 44 (f := dnB "Web" "__eq__") rfl)
  dn_Web__add := dnB_ok (c.fact 45 (f := dnB "Web" "__add__") rfl)
  dn_Web__sub := dnB_ok (c.fact 46 (f := dnB "Web" "__sub__") rfl)
  dn_Web__mul := dnB_ok (c.fact 47 (f := dnB "Web" "__mul__") rfl)
  dn_Web__rmul := dnB_ok (c.fact 48 (f := dnB "Web" "__rmul__") rfl)
  me_Web_within := He.meth_ok (c.fact 49 (f := (He.Fa.meth "Web" "within").ok) rfl)
  me_Web_crossing := He.meth_ok (c.fact 50 (f := (He.Fa.meth "Web" "crossing").ok) rfl)
  g_TooMany := He.glo_ok X G (c.fact 51 (f := (He.Fa.glo "TooMany").ok) rfl)
  xi_TooMany := xiB_ok (c.fact 52 (f := xiB "TooMany") rfl)
  nox_TooMany_limit := He.noat_ok (c.fact 53 (f := (He.Fa.noat "TooMany" "limit").ok) rfl)
  g_TooFew := He.glo_ok X G (c.fact 54 (f := (He.Fa.glo "TooFew").ok) rfl)
  xi_TooFew := xiB_ok (c.fact 55 (f := xiB "TooFew") rfl)
  nox_TooFew_pair := He.noat_ok (c.fact 56 (f := (He.Fa.noat "TooFew" "pair").ok) rfl)
  g_Unequal := He.glo_ok X G (c.fact 57 (f := (He.Fa.glo "Unequal").ok) rfl)
  xi_Unequal := xiB_ok (c.fact 58 (f := xiB "Unequal") rfl)
  nox_Unequal_other := He.noat_ok (c.fact 59 (f := (He.Fa.noat "Unequal" "other").ok) rfl)
  nox_Unequal_one := He.noat_ok (c.fact 60 (f := (He.Fa.noat "Unequal" "one").ok) rfl)
  exm_TooFew := exmB_ok rfl rfl (c.fact 61 (f := exmB clA "TooFew" [3] [2, 4]) rfl)
  xs := xsB_ok rfl rfl (c.fact 62 (f := xsB clA [2, 3, 4]) rfl)
  eq_Web := eqB_ok (c.fact 63 (f := eqB "Web") rfl)
  mu_Web := mulB_ok (c.fact 64 (f := mulB "Web") rfl)
  sf_Web := sfB_ok (c.fact 65 (f := sfB "Web") rfl)
  isa := isaB_ok rfl rfl (c.fact 66 (f := isaB clA [0]) rfl)
  f_TooMany__init := c.def_ 0 (d := dx_TooMany__init) rfl
  f_TooFew__init := c.def_ 1 (d := dx_TooFew__init) rfl
  f_Unequal__init := c.def_ 2 (d := dx_Unequal__init) rfl
  f_is_integer := c.def_ 3 (d := dx_is_integer) rfl
  f_is_count := c.def_ 4 (d := dx_is_count) rfl
  f_is_tie := c.def_ 5 (d := dx_is_tie) rfl
  f_summed := c.def_ 6 (d := dx_summed) rfl
  f_grid_of := c.def_ 7 (d := dx_grid_of) rfl
  f_Web__init := c.def_ 8 (d := dx_Web__init) rfl
  f_Web_total := c.def_ 9 (d := dx_Web_total) rfl
  f_Web_degrees := c.def_ 10 (d := dx_Web_degrees) rfl
  f_Web__getitem := c.def_ 11 (d := dx_Web__getitem) rfl
  f_Web__eq := c.def_ 12 (d := dx_Web__eq) rfl
  f_Web__add := c.def_ 13 (d := dx_Web__add) rfl
  f_Web__sub := c.def_ 14 (d := dx_Web__sub) rfl
  f_Web__mul := c.def_ 15 (d := dx_Web__mul) rfl
  f_Web__rmul := c.def_ 16 (d := dx_Web__rmul) rfl
  f_Web_within := c.def_ 17 (d := dx_Web_within) rfl
  f_Web_crossing := c.def_ 18 (d := dx_Web_crossing) rfl
  f_beside := c.def_ 19 (d := dx_beside) rfl
  f_renamed := c.def_ 20 (d := dx_renamed) rfl
  f_moved := c.def_ 21 (d := dx_moved) rfl
  f_law_bag := c.def_ 22 (d := dx_law_bag) rfl
  f_law_take := c.def_ 23 (d := dx_law_take) rfl
  f_law_mixed := c.def_ 24 (d := dx_law_mixed) rfl
  f_law_web := c.def_ 25 (d := dx_law_web) rfl
  f_law_sum := c.def_ 26 (d := dx_law_sum) rfl
  f_law_fits := c.def_ 27 (d := dx_law_fits) rfl
  f_law_counts_right := c.def_ 28 (d := dx_law_counts_right) rfl
  f_law_sums_right := c.def_ 29 (d := dx_law_sums_right) rfl
  f_law := c.def_ 30 (d := dx_law) rfl
theorem nd_Web {K : PySem.W.Frag} : ((cn K).fn 0).Nodup := (by decide : (flA 0).Nodup)
theorem nd_TooFew {K : PySem.W.Frag} : ((cn K).fn 3).Nodup := (by decide : (flA 3).Nodup)
theorem nm_Web_within {K : PySem.W.Frag} : ("within" : Str) ∉ (cn K).fn 0 := (by decide : ("within" : Str) ∉ flA 0)
theorem nm_Web_crossing {K : PySem.W.Frag} : ("crossing" : Str) ∉ (cn K).fn 0 := (by decide : ("crossing" : Str) ∉ flA 0)
section
variable {P : Program} {w : World} {K : PySem.W.Frag} {mg : Str → Option Value} {base : Heap}
theorem sc_TooFew__init : FnScope ["self", "pair"] ["self", "pair"] (defScope s_TooFew__init) := ⟨rfl, rfl, rfl, by decide +kernel, rfl, by decide +kernel, by decide +kernel⟩
theorem okx_TooFew (T : Txt K mg) : ∃ fd, FnOk P w K mg base CX0 1 (a_TooFew__init K) fd ["self", "pair"] (spX1 (He.ga K "TooFew") "pair") ∧ Binds K fd ["self", "pair"] [] := by
  obtain ⟨fd, F⟩ := T.f_TooFew__init
  exact ⟨fd, x1_ok F sc_TooFew__init rfl rfl T.xi_TooFew.ox T.nox_TooFew_pair (fun cdv A outer s H E => pss_one (ps_ost (pv 0) (pv 1))), F.bindsN fun _ _ _ _ _ _ us hl => match us, hl with | [_, _], _ => rfl⟩
theorem sc_is_integer : FnScope ["thing"] ["thing"] (defScope s_is_integer) := ⟨rfl, rfl, rfl, by decide +kernel, rfl, by decide +kernel, by decide +kernel⟩
def b_is_integer : MS := (sRet (mAnd (mIsi [0] (.ty .int) (mVar 0)) (mNot (mIsi [0] (.ty .bool) (mVar 0)))))
def m_is_integer : MF := mDef 1 1 b_is_integer
theorem ar_is_integer : Ar 1 m_is_integer := mDef_ar
theorem ok_is_integer (T : Txt K mg) : ∃ fd, FnG P w K mg base 1 (a_is_integer K) fd ["thing"] (SpD (cn K) 1 m_is_integer) ∧ Binds K fd ["thing"] [] ∧ PySem.W.keepIn K (.ref (a_is_integer K)) = true := by
  obtain ⟨fd, F⟩ := T.f_is_integer
  refine ⟨fd, fn_ok (k := cn K) F sc_is_integer (by decide) fun cdv A outer s H E hr => ?_, F.bindsN fun _ _ _ _ _ _ us hl => match us, hl with | [_], _ => rfl, F.kp⟩
  have tk : CT.Takes (cxOf (L2N.CX P w) P w K mg base ["thing"] "is_integer" (defScope s_is_integer) (a_is_integer K) cdv A outer s H E) (fun c d _ H => E c d H) := CT.takes_of rfl rfl rfl rfl
  exact (dss_one (ds_ret (de_and (de_isi (by rfl) T.n_isinstance T.isa rfl rfl (dv 0) (pe_bltn (v := .ty "int") (by rfl) T.n_int (by decide +kernel) rfl)) (de_one (de_not (de_isi (by rfl) T.n_isinstance T.isa rfl rfl (dv 0) (pe_bltn (v := .ty "bool") (by rfl) T.n_bool (by decide +kernel) rfl)))))))
theorem sc_is_count : FnScope ["thing", "least", "greatest"] ["thing", "least", "greatest"] (defScope s_is_count) := ⟨rfl, rfl, rfl, by decide +kernel, rfl, by decide +kernel, by decide +kernel⟩
def b_is_count : MS := (sRet (mAnd (mCall m_is_integer [] (mCons (mVar 0) mNil)) (mChain oLe oLe (mVar 1) (mVar 0) (mVar 2))))
def m_is_count : MF := mDef 3 3 b_is_count
theorem ar_is_count : Ar 3 m_is_count := mDef_ar
theorem ok_is_count (T : Txt K mg) : ∃ fd, FnG P w K mg base 2 (a_is_count K) fd ["thing", "least", "greatest"] (SpD (cn K) 3 m_is_count) ∧ Binds K fd ["thing", "least", "greatest"] [] ∧ PySem.W.keepIn K (.ref (a_is_count K)) = true := by
  obtain ⟨fd_is_integer, F_is_integer, B_is_integer, kp_is_integer⟩ := ok_is_integer (P := P) (w := w) (base := base) T
  obtain ⟨fd, F⟩ := T.f_is_count
  refine ⟨fd, fn_ok (k := cn K) F sc_is_count (by decide) fun cdv A outer s H E hr => ?_, F.bindsN fun _ _ _ _ _ _ us hl => match us, hl with | [_, _, _], _ => rfl, F.kp⟩
  have tk : CT.Takes (cxOf (L2N.CX P w) P w K mg base ["thing", "least", "greatest"] "is_count" (defScope s_is_count) (a_is_count K) cdv A outer s H E) (fun c d _ H => E c d H) := CT.takes_of rfl rfl rfl rfl
  exact (dss_one (ds_ret (de_and (de_call tk F_is_integer ar_is_integer (hr.mono (by decide)) (by rfl) T.g_is_integer kp_is_integer B_is_integer .nil (fun _ _ _ => .nil) (da_cons (dv 0) da_nil)) (de_one (de_chain op_le d_le op_le d_le (dv 1) (dv 0) (dv 2))))))
theorem sc_is_tie : FnScope ["size", "thing", "u", "v", "number"] ["size", "thing"] (defScope s_is_tie) := ⟨rfl, rfl, rfl, by decide +kernel, rfl, by decide +kernel, by decide +kernel⟩
def b_is_tie_0 : MS := (sIf (tOrM (tNotM (mTst (mIsi [0] (.ty .tuple) (mVar 1)))) (mTst (mOp (oEqA true) (mAp oLen (mCons (mVar 1) mNil)) (mC (.int 3))))) (sRet (mC (.bl false))) sNext)
def b_is_tie_1 : MS := (sAsg (mVar 1) (Tgt.tp [2, 3, 4]).M)
def b_is_tie_2 : MS := (sIf (tOrM (tNotM (mTst (mCall m_is_count [] (mCons (mVar 2) (mCons (mC (.int 0)) (mCons (mOp oSub (mVar 0) (mC (.int 1))) mNil)))))) (tOrM (tNotM (mTst (mCall m_is_count [] (mCons (mVar 3) (mCons (mC (.int 0)) (mCons (mOp oSub (mVar 0) (mC (.int 1))) mNil)))))) (mTst (mOp (oEqA false) (mVar 2) (mVar 3))))) (sRet (mC (.bl false))) sNext)
def b_is_tie_3 : MS := (sRet (mCall m_is_count [] (mCons (mVar 4) (mCons (mC (.int 0)) (mCons (mC (.int 1000000000)) mNil)))))
def b_is_tie : MS := (sSeq b_is_tie_0 (sSeq b_is_tie_1 (sSeq b_is_tie_2 b_is_tie_3)))
def m_is_tie : MF := mDef 2 5 b_is_tie
theorem e_is_tie (x0 x1 : D) (C : Store) : m_is_tie [x0, x1] C = finS C.length (b_is_tie ⟨C.length, [some x0, some x1, none, none, none]⟩ C) := mDef_e rfl rfl
theorem ar_is_tie : Ar 2 m_is_tie := mDef_ar
theorem ok_is_tie (T : Txt K mg) : ∃ fd, FnG P w K mg base 3 (a_is_tie K) fd ["size", "thing"] (SpD (cn K) 2 m_is_tie) ∧ Binds K fd ["size", "thing"] [] ∧ PySem.W.keepIn K (.ref (a_is_tie K)) = true := by
  obtain ⟨fd_is_count, F_is_count, B_is_count, kp_is_count⟩ := ok_is_count (P := P) (w := w) (base := base) T
  obtain ⟨t_MOST, h_MOST⟩ := T.c_MOST
  obtain ⟨fd, F⟩ := T.f_is_tie
  refine ⟨fd, fn_ok (k := cn K) F sc_is_tie (by decide) fun cdv A outer s H E hr => ?_, F.bindsN fun _ _ _ _ _ _ us hl => match us, hl with | [_, _], _ => rfl, F.kp⟩
  have tk : CT.Takes (cxOf (L2N.CX P w) P w K mg base ["size", "thing", "u", "v", "number"] "is_tie" (defScope s_is_tie) (a_is_tie K) cdv A outer s H E) (fun c d _ H => E c d H) := CT.takes_of rfl rfl rfl rfl
  exact (dss_cons (ds_if (PW.pt (dw_or (dt_not (dt_val (de_isi (by rfl) T.n_isinstance T.isa rfl rfl (dv 1) (pe_bltn (v := .ty "tuple") (by rfl) T.n_tuple (by decide +kernel) rfl)))) (dw_or1 (dt_cmp (op_ne.or (op_neD hr.room.units)) d_neA (de_callB call_len_seq d_len (by rfl) T.n_len (by decide +kernel) (da_cons (dv 1) da_nil)) de_int (nomark _))))) (dss_one (ds_ret de_bl)) dss_nil)
  (dss_cons (ds_asgT (dv 1) (tg_tp [2, 3, 4] rfl rfl (pgs_cons (pg_name (i := 2) sc_is_tie.nd rfl (Or.inl rfl)) (pgs_cons (pg_name (i := 3) sc_is_tie.nd rfl (Or.inl rfl)) (pgs_cons (pg_name (i := 4) sc_is_tie.nd rfl (Or.inl rfl)) pgs_nil)))))
  (dss_cons (ds_if (PW.pt (dw_or (dt_not (dt_val (de_call tk F_is_count ar_is_count (hr.mono (by decide)) (by rfl) T.g_is_count kp_is_count B_is_count .nil (fun _ _ _ => .nil) (da_cons (dv 2) (da_cons de_int (da_cons (de_op op_sub d_sub (dv 0) de_int) da_nil)))))) (dw_or (dt_not (dt_val (de_call tk F_is_count ar_is_count (hr.mono (by decide)) (by rfl) T.g_is_count kp_is_count B_is_count .nil (fun _ _ _ => .nil) (da_cons (dv 3) (da_cons de_int (da_cons (de_op op_sub d_sub (dv 0) de_int) da_nil)))))) (dw_or1 (dt_cmp (op_eq.or (op_eqD hr.room.units)) d_eqA (dv 2) (dv 3) (nomark _)))))) (dss_one (ds_ret de_bl)) dss_nil)
  (dss_one (ds_ret (de_call tk F_is_count ar_is_count (hr.mono (by decide)) (by rfl) T.g_is_count kp_is_count B_is_count .nil (fun _ _ _ => .nil) (da_cons (dv 4) (da_cons de_int (da_cons (de_glob (fun _ _ _ => .int _) (by rfl) h_MOST ⟨_, rfl⟩) da_nil)))))))))
theorem sc_summed : FnScope ["ties", "found", "u", "v", "number", "pair"] ["ties"] (defScope s_summed) := ⟨rfl, rfl, rfl, by decide +kernel, rfl, by decide +kernel, by decide +kernel⟩
def b_summed_0 : MS := (sAsg (mDNew true) (gN 1))
def b_summed_1b_0 : MS := (sAsg (mAp oTup (mCons (mAp oMin2 (mCons (mVar 2) (mCons (mVar 3) mNil))) (mCons (mAp oMax2 (mCons (mVar 2) (mCons (mVar 3) mNil))) mNil))) (gN 5))
def b_summed_1b_1 : MS := (sPut (mOp oAdd (mDGet (mVar 1) (mVar 5) (mC (.int 0))) (mVar 4)) (mVar 1) (mVar 5))
def b_summed_1 : MS := (sFor (mSeq (mVar 0)) (Tgt.tp [2, 3, 4]).M (sSeq b_summed_1b_0 b_summed_1b_1))
def b_summed_2 : MS := (sRet (mVar 1))
def b_summed : MS := (sSeq b_summed_0 (sSeq b_summed_1 b_summed_2))
def m_summed : MF := mDef 1 6 b_summed
theorem e_summed (x0 : D) (C : Store) : m_summed [x0] C = finS C.length (b_summed ⟨C.length, [some x0, none, none, none, none, none]⟩ C) := mDef_e rfl rfl
theorem ar_summed : Ar 1 m_summed := mDef_ar
theorem ok_summed (T : Txt K mg) : ∃ fd, FnG P w K mg base 1 (a_summed K) fd ["ties"] (SpD (cn K) 1 m_summed) ∧ Binds K fd ["ties"] [] ∧ PySem.W.keepIn K (.ref (a_summed K)) = true := by
  obtain ⟨fd, F⟩ := T.f_summed
  refine ⟨fd, fn_ok (k := cn K) F sc_summed (by decide) fun cdv A outer s H E hr => ?_, F.bindsN fun _ _ _ _ _ _ us hl => match us, hl with | [_], _ => rfl, F.kp⟩
  have tk : CT.Takes (cxOf (L2N.CX P w) P w K mg base ["ties", "found", "u", "v", "number", "pair"] "summed" (defScope s_summed) (a_summed K) cdv A outer s H E) (fun c d _ H => E c d H) := CT.takes_of rfl rfl rfl rfl
  exact (dss_cons (ds_set (i := 1) sc_summed.nd rfl (Or.inl rfl) (de_dnew true))
  (dss_cons (ds_for (passes_of rfl) rfl (di_seq rfl (dv 0)) (tg_tp [2, 3, 4] rfl rfl (pgs_cons (pg_name (i := 2) sc_summed.nd rfl (Or.inl rfl)) (pgs_cons (pg_name (i := 3) sc_summed.nd rfl (Or.inl rfl)) (pgs_cons (pg_name (i := 4) sc_summed.nd rfl (Or.inl rfl)) pgs_nil)))) (dss_cons (ds_set (i := 5) sc_summed.nd rfl (Or.inl rfl) (de_tup (da_cons (de_callB (call_min2 rfl) d_min2 (by rfl) T.n_min (by decide +kernel) (da_cons (dv 2) (da_cons (dv 3) da_nil))) (da_cons (de_callB (call_max2 rfl) d_max2 (by rfl) T.n_max (by decide +kernel) (da_cons (dv 2) (da_cons (dv 3) da_nil))) da_nil))))
  (dss_one (ds_put (hu_of hr.room) (de_op op_add d_add (de_dget (hu_of hr.room) (dv 1) (dv 5) de_int) (dv 4)) (dv 1) (dv 5)))))
  (dss_one (ds_ret (dv 1)))))
theorem sc_grid_of : FnScope ["size", "ties", "found", "u", "v"] ["size", "ties"] (defScope s_grid_of) := ⟨rfl, rfl, rfl, by decide +kernel, rfl, by decide +kernel, by decide +kernel⟩
def b_grid_of_0 : MS := (sAsg (mCall m_summed [] (mCons (mVar 1) mNil)) (gN 2))
def b_grid_of_1 : MS := (sRet (mLc false (mRng1 (mVar 0)) (Tgt.nm 3).M tYesM (mLc false (mRng1 (mVar 0)) (Tgt.nm 4).M tYesM (mDGet (mVar 2) (mAp oTup (mCons (mAp oMin2 (mCons (mVar 3) (mCons (mVar 4) mNil))) (mCons (mAp oMax2 (mCons (mVar 3) (mCons (mVar 4) mNil))) mNil))) (mC (.int 0))) [4]) [3]))
def b_grid_of : MS := (sSeq b_grid_of_0 b_grid_of_1)
def m_grid_of : MF := mDef 2 5 b_grid_of
theorem e_grid_of (x0 x1 : D) (C : Store) : m_grid_of [x0, x1] C = finS C.length (b_grid_of ⟨C.length, [some x0, some x1, none, none, none]⟩ C) := mDef_e rfl rfl
theorem ar_grid_of : Ar 2 m_grid_of := mDef_ar
theorem ok_grid_of (T : Txt K mg) : ∃ fd, FnG P w K mg base 2 (a_grid_of K) fd ["size", "ties"] (SpD (cn K) 2 m_grid_of) ∧ Binds K fd ["size", "ties"] [] ∧ PySem.W.keepIn K (.ref (a_grid_of K)) = true := by
  obtain ⟨fd_summed, F_summed, B_summed, kp_summed⟩ := ok_summed (P := P) (w := w) (base := base) T
  obtain ⟨fd, F⟩ := T.f_grid_of
  refine ⟨fd, fn_ok (k := cn K) F sc_grid_of (by decide) fun cdv A outer s H E hr => ?_, F.bindsN fun _ _ _ _ _ _ us hl => match us, hl with | [_, _], _ => rfl, F.kp⟩
  have tk : CT.Takes (cxOf (L2N.CX P w) P w K mg base ["size", "ties", "found", "u", "v"] "grid_of" (defScope s_grid_of) (a_grid_of K) cdv A outer s H E) (fun c d _ H => E c d H) := CT.takes_of rfl rfl rfl rfl
  exact (dss_cons (ds_set (i := 2) sc_grid_of.nd rfl (Or.inr rfl) (de_call tk F_summed ar_summed (hr.mono (by decide)) (by rfl) T.g_summed kp_summed B_summed .nil (fun _ _ _ => .nil) (da_cons (dv 1) da_nil)))
  (dss_one (ds_ret (de_lc (own := [("u", 3)]) false rfl rfl sc_grid_of.nd (di_rng1 (by rfl) T.n_range (dv 0)) (blkOk_by (own := [("u", 3)]) rfl) (by decide) (fun _ _ _ _ _ => (tg_nm (i := 3) sc_grid_of.nd rfl (by first | exact Or.inl rfl | exact Or.inr rfl))) (fun _ _ _ _ _ => dts_nil) (fun _ _ _ _ _ => (de_lc (own := [("v", 4)]) false rfl rfl sc_grid_of.nd (di_rng1 (by rfl) T.n_range (dv 0)) (blkOk_by (own := [("v", 4)]) rfl) (by decide) (fun _ _ _ _ _ => (tg_nm (i := 4) sc_grid_of.nd rfl (by first | exact Or.inl rfl | exact Or.inr rfl))) (fun _ _ _ _ _ => dts_nil) (fun _ _ _ _ _ => (de_dget (hu_of hr.room) (dv 2) (de_tup (da_cons (de_callB (call_min2 rfl) d_min2 (by rfl) T.n_min (by decide +kernel) (da_cons (dv 3) (da_cons (dv 4) da_nil))) (da_cons (de_callB (call_max2 rfl) d_max2 (by rfl) T.n_max (by decide +kernel) (da_cons (dv 3) (da_cons (dv 4) da_nil))) da_nil))) de_int))))))))
theorem sc_Web__init : FnScope ["self", "size", "ties", "at", "item", "grid", "pairs", "line", "number", "u", "v"] ["self", "size", "ties"] (defScope s_Web__init) := ⟨rfl, rfl, rfl, by decide +kernel, rfl, by decide +kernel, by decide +kernel⟩
def b_Web__init_0 : MS := (sIf (tNotM (mTst (mCall m_is_count [] (mCons (mVar 1) (mCons (mC (.int 0)) (mCons (mC (.int 60)) mNil)))))) sNever sNext)
def b_Web__init_1 : MS := (sIf (tNotM (mTst (mIsi2 [0] (.ty .list) (.ty .tuple) (mVar 2)))) sNever sNext)
def b_Web__init_2b_0 : MS := (sIf (tNotM (mTst (mCall m_is_tie [] (mCons (mVar 1) (mCons (mVar 4) mNil))))) sNever sNext)
def b_Web__init_2 : MS := (sFor (mEnum (mVar 2)) (Tgt.tp [3, 4]).M b_Web__init_2b_0)
def b_Web__init_3 : MS := (sAsg (mCall m_grid_of [] (mCons (mVar 1) (mCons (mVar 2) mNil))) (gN 5))
def b_Web__init_4 : MS := (sIf (mTst (mAp oAny (mCons (mLc2 false (mSeq (mVar 5)) (Tgt.nm 7).M tYesM (mSeq (mVar 7)) (Tgt.nm 8).M tYesM (mOp oGt (mVar 8) (mC (.int 1000000000))) [7, 8] [8]) mNil))) sNever sNext)
def b_Web__init_5 : MS := (sAsg (mLc2 false (mRng1 (mVar 1)) (Tgt.nm 9).M tYesM (mRng2 (mOp oAdd (mVar 9) (mC (.int 1))) (mVar 1)) (Tgt.nm 10).M tYesM (mAp oTup (mCons (mVar 9) (mCons (mVar 10) mNil))) [9, 10] [10]) (gN 6))
def b_Web__init_6 : MS := (sFldS 0 0 (mVar 1) (mVar 0))
def b_Web__init_7 : MS := (sFldS 0 1 (mVar 5) (mVar 0))
def b_Web__init_8 : MS := (sFldS 0 2 (mAp oTupOf (mCons (mLc false (mSeq (mVar 6)) (Tgt.tp [9, 10]).M (mTst (mOp oGt (mOp oIx (mOp oIx (mVar 5) (mVar 9)) (mVar 10)) (mC (.int 0)))) (mAp oTup (mCons (mVar 9) (mCons (mVar 10) (mCons (mOp oIx (mOp oIx (mVar 5) (mVar 9)) (mVar 10)) mNil)))) [9, 10]) mNil)) (mVar 0))
def b_Web__init : MS := (sSeq b_Web__init_0 (sSeq b_Web__init_1 (sSeq b_Web__init_2 (sSeq b_Web__init_3 (sSeq b_Web__init_4 (sSeq b_Web__init_5 (sSeq b_Web__init_6 (sSeq b_Web__init_7 b_Web__init_8))))))))
def m_Web__init : MF := mDef 3 11 b_Web__init
theorem e_Web__init (x0 x1 x2 : D) (C : Store) : m_Web__init [x0, x1, x2] C = finS C.length (b_Web__init ⟨C.length, [some x0, some x1, some x2, none, none, none, none, none, none, none, none]⟩ C) := mDef_e rfl rfl
theorem ar_Web__init : Ar 3 m_Web__init := mDef_ar
theorem ok_Web__init (T : Txt K mg) : ∃ fd, FnG P w K mg base 4 (a_Web__init K) fd ["self", "size", "ties"] (SpD (cn K) 3 m_Web__init) ∧ Binds K fd ["self", "size", "ties"] [] ∧ PySem.W.keepIn K (.ref (a_Web__init K)) = true ∧ ∃ ds, Vals [V.ref (d_Web__init K)] ds ∧ Binds K fd ["self", "size", "ties"] ds := by
  obtain ⟨fd_is_count, F_is_count, B_is_count, kp_is_count⟩ := ok_is_count (P := P) (w := w) (base := base) T
  obtain ⟨fd_is_tie, F_is_tie, B_is_tie, kp_is_tie⟩ := ok_is_tie (P := P) (w := w) (base := base) T
  obtain ⟨fd_grid_of, F_grid_of, B_grid_of, kp_grid_of⟩ := ok_grid_of (P := P) (w := w) (base := base) T
  obtain ⟨t_MOST, h_MOST⟩ := T.c_MOST
  obtain ⟨fd, F⟩ := T.f_Web__init
  refine ⟨fd, fn_ok (k := cn K) F sc_Web__init (by decide) fun cdv A outer s H E hr => ?_, ?b0, F.kp, ?b1⟩
  rotate_left
  · obtain ⟨ds, v, b⟩ := F.binds1 (ps := ["self", "size", "ties"]) 3 1 (List.cons_ne_nil _ _) rfl fun _ _ _ _ _ _ _ us its h1 h2 => match us, its, h1, h2 with | [_, _, _], [_], _, _ => ⟨_, rfl, by with_unfolding_all rfl⟩
    cases v
    exact b
  · exact F.binds1 2 0 (List.cons_ne_nil _ _) rfl fun _ _ _ _ _ _ _ us its h1 h2 => match us, its, h1, h2 with | [_, _], [_], _, _ => ⟨_, rfl, rfl⟩
  have tk : CT.Takes (cxOf (L2N.CX P w) P w K mg base ["self", "size", "ties", "at", "item", "grid", "pairs", "line", "number", "u", "v"] "Web.__init__" (defScope s_Web__init) (a_Web__init K) cdv A outer s H E) (fun c d _ H => E c d H) := CT.takes_of rfl rfl rfl rfl
  exact (dss_cons (ds_if (dt_not (dt_val (de_call tk F_is_count ar_is_count (hr.mono (by decide)) (by rfl) T.g_is_count kp_is_count B_is_count .nil (fun _ _ _ => .nil) (da_cons (dv 1) (da_cons de_int (da_cons de_int da_nil)))))) (dss_one ds_never) dss_nil)
  (dss_cons (ds_if (dt_not (dt_val (de_isi2 (by rfl) T.n_isinstance T.isa rfl rfl rfl (dv 2) (pe_bltn (v := .ty "list") (by rfl) T.n_list (by decide +kernel) rfl) (pe_bltn (v := .ty "tuple") (by rfl) T.n_tuple (by decide +kernel) rfl)))) (dss_one ds_never) dss_nil)
  (dss_cons (ds_for (passes_of rfl) rfl (di_enum (by rfl) T.n_enumerate rfl (dv 2)) (tg_tp [3, 4] rfl rfl (pgs_cons (pg_name (i := 3) sc_Web__init.nd rfl (Or.inl rfl)) (pgs_cons (pg_name (i := 4) sc_Web__init.nd rfl (Or.inl rfl)) pgs_nil))) (dss_one (ds_if (dt_not (dt_val (de_call tk F_is_tie ar_is_tie (hr.mono (by decide)) (by rfl) T.g_is_tie kp_is_tie B_is_tie .nil (fun _ _ _ => .nil) (da_cons (dv 1) (da_cons (dv 4) da_nil))))) (dss_one ds_never) dss_nil)))
  (dss_cons (ds_set (i := 5) sc_Web__init.nd rfl (Or.inr rfl) (de_call tk F_grid_of ar_grid_of (hr.mono (by decide)) (by rfl) T.g_grid_of kp_grid_of B_grid_of .nil (fun _ _ _ => .nil) (da_cons (dv 1) (da_cons (dv 2) da_nil))))
  (dss_cons (ds_if (dt_val (de_callB (cr_any rfl) d_any (by rfl) T.n_any (by decide +kernel) (da_cons (de_lc2 (own := [("line", 7), ("number", 8)]) (vs1 := [8]) false rfl rfl sc_Web__init.nd (di_seq rfl (dv 5)) (blkOk_by (own := [("line", 7), ("number", 8)]) rfl) (by decide) (by decide) (by decide) (fun _ _ _ _ _ => (tg_nm (i := 7) sc_Web__init.nd rfl (by first | exact Or.inl rfl | exact Or.inr rfl))) (fun _ _ _ _ _ => dts_nil) (fun _ _ _ _ _ => (di_seq rfl (dv 7))) (fun _ _ _ _ _ => (tg_nm (i := 8) sc_Web__init.nd rfl (by first | exact Or.inl rfl | exact Or.inr rfl))) (fun _ _ _ _ _ => dts_nil) (fun _ _ _ _ _ => (de_cmp op_gt d_gt (dv 8) (de_glob (fun _ _ _ => .int _) (by rfl) h_MOST ⟨_, rfl⟩) (nomark _)))) da_nil))) (dss_one ds_never) dss_nil)
  (dss_cons (ds_setLc2 (i := 6) (own := [("u", 9), ("v", 10)]) (vs1 := [10]) false rfl rfl sc_Web__init.nd rfl rfl (sw_true rfl rfl rfl (by decide +kernel)) (di_rng1 (by rfl) T.n_range (dv 1)) (blkOk_by (own := [("u", 9), ("v", 10)]) rfl) (by decide) (by decide) (by decide) (fun _ _ _ _ _ => (tg_nm (i := 9) sc_Web__init.nd rfl (by first | exact Or.inl rfl | exact Or.inr rfl))) (fun _ _ _ _ _ => dts_nil) (fun _ _ _ _ _ => (di_rng2 (by rfl) T.n_range (de_op op_add d_add (dv 9) de_int) (dv 1))) (fun _ _ _ _ _ => (tg_nm (i := 10) sc_Web__init.nd rfl (by first | exact Or.inl rfl | exact Or.inr rfl))) (fun _ _ _ _ _ => dts_nil) (fun _ _ _ _ _ => (de_tup (da_cons (dv 9) (da_cons (dv 10) da_nil)))))
  (dss_cons (ds_fld 0 0 rfl T.cl_Web T.no_Web_size (nd_Web (K := K)) rfl (show 3 < 1000 by decide) (dv 0) (dv 1))
  (dss_cons (ds_fld 0 1 rfl T.cl_Web T.no_Web_grid (nd_Web (K := K)) rfl (show 3 < 1000 by decide) (dv 0) (dv 5))
  (dss_one (ds_fld 0 2 rfl T.cl_Web T.no_Web_ties (nd_Web (K := K)) rfl (show 3 < 1000 by decide) (dv 0) (de_callTy call_tuple_of d_tupOf (by rfl) T.n_tuple (by decide +kernel) (da_cons (de_lc (own := [("u", 9), ("v", 10)]) false rfl rfl sc_Web__init.nd (di_seq rfl (dv 6)) (blkOk_by (own := [("u", 9), ("v", 10)]) rfl) (by decide) (fun _ _ _ _ _ => (tg_tp [9, 10] rfl rfl (pgs_cons (pg_name (i := 9) sc_Web__init.nd rfl (by first | exact Or.inl rfl | exact Or.inr rfl)) (pgs_cons (pg_name (i := 10) sc_Web__init.nd rfl (by first | exact Or.inl rfl | exact Or.inr rfl)) pgs_nil)))) (fun _ _ _ _ _ => (pts_one (dt_cmp op_gt d_gt (de_ix ix_seq d_ix (de_ix ix_seq d_ix (dv 5) (dv 9)) (dv 10)) de_int (nomark _)))) (fun _ _ _ _ _ => (de_tup (da_cons (dv 9) (da_cons (dv 10) (da_cons (de_ix ix_seq d_ix (de_ix ix_seq d_ix (dv 5) (dv 9)) (dv 10)) da_nil)))))) da_nil))))))))))))
theorem sc_Web_total : FnScope ["self", "u", "v", "number"] ["self"] (defScope s_Web_total) := ⟨rfl, rfl, rfl, by decide +kernel, rfl, by decide +kernel, by decide +kernel⟩
def b_Web_total : MS := (sRet (mAp oSum (mCons (mLc false (mSeq (mUn (oFld 0 2) (mVar 0))) (Tgt.tp [1, 2, 3]).M tYesM (mVar 3) [1, 2, 3]) mNil)))
def m_Web_total : MF := mDef 1 4 b_Web_total
theorem e_Web_total (x0 : D) (C : Store) : m_Web_total [x0] C = finS C.length (b_Web_total ⟨C.length, [some x0, none, none, none]⟩ C) := mDef_e rfl rfl
theorem ar_Web_total : Ar 1 m_Web_total := mDef_ar
theorem ok_Web_total (T : Txt K mg) : ∃ fd, FnG P w K mg base 1 (a_Web_total K) fd ["self"] (SpD (cn K) 1 m_Web_total) ∧ Binds K fd ["self"] [] ∧ PySem.W.keepIn K (.ref (a_Web_total K)) = true := by
  obtain ⟨fd, F⟩ := T.f_Web_total
  refine ⟨fd, fn_ok (k := cn K) F sc_Web_total (by decide) fun cdv A outer s H E hr => ?_, F.bindsN fun _ _ _ _ _ _ us hl => match us, hl with | [_], _ => rfl, F.kp⟩
  have tk : CT.Takes (cxOf (L2N.CX P w) P w K mg base ["self", "u", "v", "number"] "Web.total" (defScope s_Web_total) (a_Web_total K) cdv A outer s H E) (fun c d _ H => E c d H) := CT.takes_of rfl rfl rfl rfl
  exact (dss_one (ds_ret (de_callB (cr_sum rfl) d_sum (by rfl) T.n_sum (by decide +kernel) (da_cons (de_lc (own := [("u", 1), ("v", 2), ("number", 3)]) false rfl rfl sc_Web_total.nd (di_seq rfl (de_fld 0 2 rfl T.cl_Web T.no_Web_ties (nd_Web (K := K)) rfl (dv 0))) (blkOk_by (own := [("u", 1), ("v", 2), ("number", 3)]) rfl) (by decide) (fun _ _ _ _ _ => (tg_tp [1, 2, 3] rfl rfl (pgs_cons (pg_name (i := 1) sc_Web_total.nd rfl (by first | exact Or.inl rfl | exact Or.inr rfl)) (pgs_cons (pg_name (i := 2) sc_Web_total.nd rfl (by first | exact Or.inl rfl | exact Or.inr rfl)) (pgs_cons (pg_name (i := 3) sc_Web_total.nd rfl (by first | exact Or.inl rfl | exact Or.inr rfl)) pgs_nil))))) (fun _ _ _ _ _ => dts_nil) (fun _ _ _ _ _ => (dv 3))) da_nil))))
theorem sc_Web_degrees : FnScope ["self", "line"] ["self"] (defScope s_Web_degrees) := ⟨rfl, rfl, rfl, by decide +kernel, rfl, by decide +kernel, by decide +kernel⟩
def b_Web_degrees : MS := (sRet (mAp oTupOf (mCons (mLc false (mSeq (mUn (oFld 0 1) (mVar 0))) (Tgt.nm 1).M tYesM (mAp oSum (mCons (mVar 1) mNil)) [1]) mNil)))
def m_Web_degrees : MF := mDef 1 2 b_Web_degrees
theorem e_Web_degrees (x0 : D) (C : Store) : m_Web_degrees [x0] C = finS C.length (b_Web_degrees ⟨C.length, [some x0, none]⟩ C) := mDef_e rfl rfl
theorem ar_Web_degrees : Ar 1 m_Web_degrees := mDef_ar
theorem ok_Web_degrees (T : Txt K mg) : ∃ fd, FnG P w K mg base 1 (a_Web_degrees K) fd ["self"] (SpD (cn K) 1 m_Web_degrees) ∧ Binds K fd ["self"] [] ∧ PySem.W.keepIn K (.ref (a_Web_degrees K)) = true := by
  obtain ⟨fd, F⟩ := T.f_Web_degrees
  refine ⟨fd, fn_ok (k := cn K) F sc_Web_degrees (by decide) fun cdv A outer s H E hr => ?_, F.bindsN fun _ _ _ _ _ _ us hl => match us, hl with | [_], _ => rfl, F.kp⟩
  have tk : CT.Takes (cxOf (L2N.CX P w) P w K mg base ["self", "line"] "Web.degrees" (defScope s_Web_degrees) (a_Web_degrees K) cdv A outer s H E) (fun c d _ H => E c d H) := CT.takes_of rfl rfl rfl rfl
  exact (dss_one (ds_ret (de_callTy call_tuple_of d_tupOf (by rfl) T.n_tuple (by decide +kernel) (da_cons (de_lc (own := [("line", 1)]) false rfl rfl sc_Web_degrees.nd (di_seq rfl (de_fld 0 1 rfl T.cl_Web T.no_Web_grid (nd_Web (K := K)) rfl (dv 0))) (blkOk_by (own := [("line", 1)]) rfl) (by decide) (fun _ _ _ _ _ => (tg_nm (i := 1) sc_Web_degrees.nd rfl (by first | exact Or.inl rfl | exact Or.inr rfl))) (fun _ _ _ _ _ => dts_nil) (fun _ _ _ _ _ => (de_callB (cr_sum rfl) d_sum (by rfl) T.n_sum (by decide +kernel) (da_cons (dv 1) da_nil)))) da_nil))))
theorem sc_Web__getitem : FnScope ["self", "at", "u", "v"] ["self", "at"] (defScope s_Web__getitem) := ⟨rfl, rfl, rfl, by decide +kernel, rfl, by decide +kernel, by decide +kernel⟩
def b_Web__getitem_0 : MS := (sAsg (mVar 1) (Tgt.tp [2, 3]).M)
def b_Web__getitem_1 : MS := (sRet (mOp oIx (mOp oIx (mUn (oFld 0 1) (mVar 0)) (mVar 2)) (mVar 3)))
def b_Web__getitem : MS := (sSeq b_Web__getitem_0 b_Web__getitem_1)
def m_Web__getitem : MF := mDef 2 4 b_Web__getitem
theorem e_Web__getitem (x0 x1 : D) (C : Store) : m_Web__getitem [x0, x1] C = finS C.length (b_Web__getitem ⟨C.length, [some x0, some x1, none, none]⟩ C) := mDef_e rfl rfl
theorem ar_Web__getitem : Ar 2 m_Web__getitem := mDef_ar
theorem ok_Web__getitem (T : Txt K mg) : ∃ fd, FnG P w K mg base 1 (a_Web__getitem K) fd ["self", "at"] (SpD (cn K) 2 m_Web__getitem) ∧ Binds K fd ["self", "at"] [] ∧ PySem.W.keepIn K (.ref (a_Web__getitem K)) = true := by
  obtain ⟨fd, F⟩ := T.f_Web__getitem
  refine ⟨fd, fn_ok (k := cn K) F sc_Web__getitem (by decide) fun cdv A outer s H E hr => ?_, F.bindsN fun _ _ _ _ _ _ us hl => match us, hl with | [_, _], _ => rfl, F.kp⟩
  have tk : CT.Takes (cxOf (L2N.CX P w) P w K mg base ["self", "at", "u", "v"] "Web.__getitem__" (defScope s_Web__getitem) (a_Web__getitem K) cdv A outer s H E) (fun c d _ H => E c d H) := CT.takes_of rfl rfl rfl rfl
  exact (dss_cons (ds_asgT (dv 1) (tg_tp [2, 3] rfl rfl (pgs_cons (pg_name (i := 2) sc_Web__getitem.nd rfl (Or.inl rfl)) (pgs_cons (pg_name (i := 3) sc_Web__getitem.nd rfl (Or.inl rfl)) pgs_nil))))
  (dss_one (ds_ret (de_ix ix_seq d_ix (de_ix ix_seq d_ix (de_fld 0 1 rfl T.cl_Web T.no_Web_grid (nd_Web (K := K)) rfl (dv 0)) (dv 2)) (dv 3)))))
theorem okH_Web__getitem (T : Txt K mg) : ∃ fd, (∀ a c dd, FnGH P w K mg base 1 (a_Web__getitem K) fd ["self", "at"] (SpD ((cn K).hold a c dd) 2 m_Web__getitem)) ∧ Binds K fd ["self", "at"] [] ∧ PySem.W.keepIn K (.ref (a_Web__getitem K)) = true := by
  obtain ⟨fd, F⟩ := T.f_Web__getitem
  refine ⟨fd, fun a c dd => fn_okH (k := (cn K).hold a c dd) F sc_Web__getitem (by decide) fun cdv A outer s H p hr hc => ?_, F.bindsN fun _ _ _ _ _ _ us hl => match us, hl with | [_, _], _ => rfl, F.kp⟩
  exact (dss_cons (ds_asgT (dv 1) (tg_tpH [2, 3] rfl hc (pgs_cons (pg_name (i := 2) sc_Web__getitem.nd rfl (Or.inl rfl)) (pgs_cons (pg_name (i := 3) sc_Web__getitem.nd rfl (Or.inl rfl)) pgs_nil))))
  (dss_one (ds_ret (de_ix ix_seq d_ix (de_ix ix_seq d_ix (de_fld 0 1 rfl T.cl_Web T.no_Web_grid (nd_Web (K := K)) rfl (dv 0)) (dv 2)) (dv 3)))))
theorem sc_Web__eq : FnScope ["self", "other"] ["self", "other"] (defScope s_Web__eq) := ⟨rfl, rfl, rfl, by decide +kernel, rfl, by decide +kernel, by decide +kernel⟩
def b_Web__eq : MS := (sRet (mAnd (mIsi [0] (.own 0) (mVar 1)) (mAnd (mOp (oEqA false) (mUn (oFld 0 0) (mVar 0)) (mUn (oFld 0 0) (mVar 1))) (mOp (oEqA false) (mUn (oFld 0 2) (mVar 0)) (mUn (oFld 0 2) (mVar 1))))))
def m_Web__eq : MF := mDef 2 2 b_Web__eq
theorem e_Web__eq (x0 x1 : D) (C : Store) : m_Web__eq [x0, x1] C = finS C.length (b_Web__eq ⟨C.length, [some x0, some x1]⟩ C) := mDef_e rfl rfl
theorem ar_Web__eq : Ar 2 m_Web__eq := mDef_ar
theorem ok_Web__eq (T : Txt K mg) : ∃ fd, FnG P w K mg base 1 (a_Web__eq K) fd ["self", "other"] (SpD (cn K) 2 m_Web__eq) ∧ Binds K fd ["self", "other"] [] ∧ PySem.W.keepIn K (.ref (a_Web__eq K)) = true := by
  obtain ⟨fd, F⟩ := T.f_Web__eq
  refine ⟨fd, fn_ok (k := cn K) F sc_Web__eq (by decide) fun cdv A outer s H E hr => ?_, F.bindsN fun _ _ _ _ _ _ us hl => match us, hl with | [_, _], _ => rfl, F.kp⟩
  have tk : CT.Takes (cxOf (L2N.CX P w) P w K mg base ["self", "other"] "Web.__eq__" (defScope s_Web__eq) (a_Web__eq K) cdv A outer s H E) (fun c d _ H => E c d H) := CT.takes_of rfl rfl rfl rfl
  exact (dss_one (ds_ret (de_and (de_isi (by rfl) T.n_isinstance T.isa rfl rfl (dv 1) (pe_glob (by rfl) T.g_Web rfl)) (de_and (de_cmp (op_eq.or (op_eqD hr.room.units)) d_eqA (de_fld 0 0 rfl T.cl_Web T.no_Web_size (nd_Web (K := K)) rfl (dv 0)) (de_fld 0 0 rfl T.cl_Web T.no_Web_size (nd_Web (K := K)) rfl (dv 1)) (nomark _)) (de_one (de_cmp (op_eq.or (op_eqD hr.room.units)) d_eqA (de_fld 0 2 rfl T.cl_Web T.no_Web_ties (nd_Web (K := K)) rfl (dv 0)) (de_fld 0 2 rfl T.cl_Web T.no_Web_ties (nd_Web (K := K)) rfl (dv 1)) (nomark _)))))))
theorem sc_Web__add : FnScope ["self", "other"] ["self", "other"] (defScope s_Web__add) := ⟨rfl, rfl, rfl, by decide +kernel, rfl, by decide +kernel, by decide +kernel⟩
def b_Web__add_0 : MS := (sIf (tNotM (mTst (mIsi [0] (.own 0) (mVar 1)))) sNever sNext)
def b_Web__add_1 : MS := (sIf (mTst (mOp (oEqA true) (mUn (oFld 0 0) (mVar 0)) (mUn (oFld 0 0) (mVar 1)))) sNever sNext)
def b_Web__add_2 : MS := (sRet (mMake false 0 3 m_Web__init [] (mCons (mUn (oFld 0 0) (mVar 0)) (mCons (mOp oCatT (mUn (oFld 0 2) (mVar 0)) (mUn (oFld 0 2) (mVar 1))) mNil))))
def b_Web__add : MS := (sSeq b_Web__add_0 (sSeq b_Web__add_1 b_Web__add_2))
def m_Web__add : MF := mDef 2 2 b_Web__add
theorem e_Web__add (x0 x1 : D) (C : Store) : m_Web__add [x0, x1] C = finS C.length (b_Web__add ⟨C.length, [some x0, some x1]⟩ C) := mDef_e rfl rfl
theorem ar_Web__add : Ar 2 m_Web__add := mDef_ar
theorem ok_Web__add (T : Txt K mg) : ∃ fd, FnG P w K mg base 6 (a_Web__add K) fd ["self", "other"] (SpD (cn K) 2 m_Web__add) ∧ Binds K fd ["self", "other"] [] ∧ PySem.W.keepIn K (.ref (a_Web__add K)) = true := by
  obtain ⟨fd_Web__init, F_Web__init, B_Web__init, kp_Web__init, ds_Web__init, vd_Web__init, Bd_Web__init⟩ := ok_Web__init (P := P) (w := w) (base := base) T
  obtain ⟨fd, F⟩ := T.f_Web__add
  refine ⟨fd, fn_ok (k := cn K) F sc_Web__add (by decide) fun cdv A outer s H E hr => ?_, F.bindsN fun _ _ _ _ _ _ us hl => match us, hl with | [_, _], _ => rfl, F.kp⟩
  have tk : CT.Takes (cxOf (L2N.CX P w) P w K mg base ["self", "other"] "Web.__add__" (defScope s_Web__add) (a_Web__add K) cdv A outer s H E) (fun c d _ H => E c d H) := CT.takes_of rfl rfl rfl rfl
  exact (dss_cons (ds_if (dt_not (dt_val (de_isi (by rfl) T.n_isinstance T.isa rfl rfl (dv 1) (pe_glob (by rfl) T.g_Web rfl)))) (dss_one ds_never) dss_nil)
  (dss_cons (ds_if (dt_cmp (op_ne.or (op_neD hr.room.units)) d_neA (de_fld 0 0 rfl T.cl_Web T.no_Web_size (nd_Web (K := K)) rfl (dv 0)) (de_fld 0 0 rfl T.cl_Web T.no_Web_size (nd_Web (K := K)) rfl (dv 1)) (nomark _)) (dss_one ds_never) dss_nil)
  (dss_one (ds_ret (de_make false 0 3 tk rfl T.mk_Web F_Web__init ar_Web__init rfl (hr.mono (by decide)) (by rfl) T.g_Web B_Web__init .nil (fun _ _ _ => .nil) (da_cons (de_fld 0 0 rfl T.cl_Web T.no_Web_size (nd_Web (K := K)) rfl (dv 0)) (da_cons (de_op op_catA d_catT (de_fld 0 2 rfl T.cl_Web T.no_Web_ties (nd_Web (K := K)) rfl (dv 0)) (de_fld 0 2 rfl T.cl_Web T.no_Web_ties (nd_Web (K := K)) rfl (dv 1))) da_nil)))))))
theorem sc_Web__sub : FnScope ["self", "other", "u", "v", "number"] ["self", "other"] (defScope s_Web__sub) := ⟨rfl, rfl, rfl, by decide +kernel, rfl, by decide +kernel, by decide +kernel⟩
def b_Web__sub_0 : MS := (sIf (tNotM (mTst (mIsi [0] (.own 0) (mVar 1)))) sNever sNext)
def b_Web__sub_1 : MS := (sIf (mTst (mOp (oEqA true) (mUn (oFld 0 0) (mVar 0)) (mUn (oFld 0 0) (mVar 1)))) sNever sNext)
def b_Web__sub_2b_0 : MS := (sIf (mTst (mOp oGt (mVar 4) (mOp oIx (mOp oIx (mUn (oFld 0 1) (mVar 0)) (mVar 2)) (mVar 3)))) (sRaise 3 1 (mCons (mAp oTup (mCons (mVar 2) (mCons (mVar 3) mNil))) mNil)) sNext)
def b_Web__sub_2 : MS := (sFor (mSeq (mUn (oFld 0 2) (mVar 1))) (Tgt.tp [2, 3, 4]).M b_Web__sub_2b_0)
def b_Web__sub_3 : MS := (sRet (mMake false 0 3 m_Web__init [] (mCons (mUn (oFld 0 0) (mVar 0)) (mCons (mLc false (mSeq (mUn (oFld 0 2) (mVar 0))) (Tgt.tp [2, 3, 4]).M tYesM (mAp oTup (mCons (mVar 2) (mCons (mVar 3) (mCons (mOp oSub (mVar 4) (mOp oIx (mOp oIx (mUn (oFld 0 1) (mVar 1)) (mVar 2)) (mVar 3))) mNil)))) [2, 3, 4]) mNil))))
def b_Web__sub : MS := (sSeq b_Web__sub_0 (sSeq b_Web__sub_1 (sSeq b_Web__sub_2 b_Web__sub_3)))
def m_Web__sub : MF := mDef 2 5 b_Web__sub
theorem e_Web__sub (x0 x1 : D) (C : Store) : m_Web__sub [x0, x1] C = finS C.length (b_Web__sub ⟨C.length, [some x0, some x1, none, none, none]⟩ C) := mDef_e rfl rfl
theorem ar_Web__sub : Ar 2 m_Web__sub := mDef_ar
theorem ok_Web__sub (T : Txt K mg) : ∃ fd, FnG P w K mg base 6 (a_Web__sub K) fd ["self", "other"] (SpD (cn K) 2 m_Web__sub) ∧ Binds K fd ["self", "other"] [] ∧ PySem.W.keepIn K (.ref (a_Web__sub K)) = true := by
  obtain ⟨fx_TooFew, F1_TooFew, B1_TooFew⟩ := okx_TooFew (P := P) (w := w) (base := base) T
  obtain ⟨fd_Web__init, F_Web__init, B_Web__init, kp_Web__init, ds_Web__init, vd_Web__init, Bd_Web__init⟩ := ok_Web__init (P := P) (w := w) (base := base) T
  obtain ⟨fd, F⟩ := T.f_Web__sub
  refine ⟨fd, fn_ok (k := cn K) F sc_Web__sub (by decide) fun cdv A outer s H E hr => ?_, F.bindsN fun _ _ _ _ _ _ us hl => match us, hl with | [_, _], _ => rfl, F.kp⟩
  have tk : CT.Takes (cxOf (L2N.CX P w) P w K mg base ["self", "other", "u", "v", "number"] "Web.__sub__" (defScope s_Web__sub) (a_Web__sub K) cdv A outer s H E) (fun c d _ H => E c d H) := CT.takes_of rfl rfl rfl rfl
  exact (dss_cons (ds_if (dt_not (dt_val (de_isi (by rfl) T.n_isinstance T.isa rfl rfl (dv 1) (pe_glob (by rfl) T.g_Web rfl)))) (dss_one ds_never) dss_nil)
  (dss_cons (ds_if (dt_cmp (op_ne.or (op_neD hr.room.units)) d_neA (de_fld 0 0 rfl T.cl_Web T.no_Web_size (nd_Web (K := K)) rfl (dv 0)) (de_fld 0 0 rfl T.cl_Web T.no_Web_size (nd_Web (K := K)) rfl (dv 1)) (nomark _)) (dss_one ds_never) dss_nil)
  (dss_cons (ds_for (passes_of rfl) rfl (di_seq rfl (de_fld 0 2 rfl T.cl_Web T.no_Web_ties (nd_Web (K := K)) rfl (dv 1))) (tg_tp [2, 3, 4] rfl rfl (pgs_cons (pg_name (i := 2) sc_Web__sub.nd rfl (Or.inl rfl)) (pgs_cons (pg_name (i := 3) sc_Web__sub.nd rfl (Or.inl rfl)) (pgs_cons (pg_name (i := 4) sc_Web__sub.nd rfl (Or.inl rfl)) pgs_nil)))) (dss_one (ds_if (dt_cmp op_gt d_gt (dv 4) (de_ix ix_seq d_ix (de_ix ix_seq d_ix (de_fld 0 1 rfl T.cl_Web T.no_Web_grid (nd_Web (K := K)) rfl (dv 0)) (dv 2)) (dv 3)) (nomark _)) (dss_one (ds_raise1 3 rfl tk rfl T.xi_TooFew rfl F1_TooFew (hr.mono (by decide)) B1_TooFew (by rfl) T.g_TooFew (da_cons (de_tup (da_cons (dv 2) (da_cons (dv 3) da_nil))) da_nil))) dss_nil)))
  (dss_one (ds_ret (de_make false 0 3 tk rfl T.mk_Web F_Web__init ar_Web__init rfl (hr.mono (by decide)) (by rfl) T.g_Web B_Web__init .nil (fun _ _ _ => .nil) (da_cons (de_fld 0 0 rfl T.cl_Web T.no_Web_size (nd_Web (K := K)) rfl (dv 0)) (da_cons (de_lc (own := [("u", 2), ("v", 3), ("number", 4)]) false rfl rfl sc_Web__sub.nd (di_seq rfl (de_fld 0 2 rfl T.cl_Web T.no_Web_ties (nd_Web (K := K)) rfl (dv 0))) (blkOk_by (own := [("u", 2), ("v", 3), ("number", 4)]) rfl) (by decide) (fun _ _ _ _ _ => (tg_tp [2, 3, 4] rfl rfl (pgs_cons (pg_name (i := 2) sc_Web__sub.nd rfl (by first | exact Or.inl rfl | exact Or.inr rfl)) (pgs_cons (pg_name (i := 3) sc_Web__sub.nd rfl (by first | exact Or.inl rfl | exact Or.inr rfl)) (pgs_cons (pg_name (i := 4) sc_Web__sub.nd rfl (by first | exact Or.inl rfl | exact Or.inr rfl)) pgs_nil))))) (fun _ _ _ _ _ => dts_nil) (fun _ _ _ _ _ => (de_tup (da_cons (dv 2) (da_cons (dv 3) (da_cons (de_op op_sub d_sub (dv 4) (de_ix ix_seq d_ix (de_ix ix_seq d_ix (de_fld 0 1 rfl T.cl_Web T.no_Web_grid (nd_Web (K := K)) rfl (dv 1)) (dv 2)) (dv 3))) da_nil)))))) da_nil))))))))
theorem sc_Web__mul : FnScope ["self", "other", "u", "v", "number"] ["self", "other"] (defScope s_Web__mul) := ⟨rfl, rfl, rfl, by decide +kernel, rfl, by decide +kernel, by decide +kernel⟩
def b_Web__mul_0 : MS := (sIf (tNotM (mTst (mCall m_is_integer [] (mCons (mVar 1) mNil)))) sNever sNext)
def b_Web__mul_1 : MS := (sIf (mTst (mAp oAny (mCons (mLc false (mSeq (mUn (oFld 0 2) (mVar 0))) (Tgt.tp [2, 3, 4]).M tYesM (mOp oGt (mOp oMul (mVar 4) (mVar 1)) (mC (.int 1000000000))) [2, 3, 4]) mNil))) sNever sNext)
def b_Web__mul_2 : MS := (sRet (mMake false 0 3 m_Web__init [] (mCons (mUn (oFld 0 0) (mVar 0)) (mCons (mLc false (mSeq (mUn (oFld 0 2) (mVar 0))) (Tgt.tp [2, 3, 4]).M tYesM (mAp oTup (mCons (mVar 2) (mCons (mVar 3) (mCons (mOp oMul (mVar 4) (mVar 1)) mNil)))) [2, 3, 4]) mNil))))
def b_Web__mul : MS := (sSeq b_Web__mul_0 (sSeq b_Web__mul_1 b_Web__mul_2))
def m_Web__mul : MF := mDef 2 5 b_Web__mul
theorem e_Web__mul (x0 x1 : D) (C : Store) : m_Web__mul [x0, x1] C = finS C.length (b_Web__mul ⟨C.length, [some x0, some x1, none, none, none]⟩ C) := mDef_e rfl rfl
theorem ar_Web__mul : Ar 2 m_Web__mul := mDef_ar
theorem ok_Web__mul (T : Txt K mg) : ∃ fd, FnG P w K mg base 6 (a_Web__mul K) fd ["self", "other"] (SpD (cn K) 2 m_Web__mul) ∧ Binds K fd ["self", "other"] [] ∧ PySem.W.keepIn K (.ref (a_Web__mul K)) = true := by
  obtain ⟨fd_is_integer, F_is_integer, B_is_integer, kp_is_integer⟩ := ok_is_integer (P := P) (w := w) (base := base) T
  obtain ⟨fd_Web__init, F_Web__init, B_Web__init, kp_Web__init, ds_Web__init, vd_Web__init, Bd_Web__init⟩ := ok_Web__init (P := P) (w := w) (base := base) T
  obtain ⟨t_MOST, h_MOST⟩ := T.c_MOST
  obtain ⟨fd, F⟩ := T.f_Web__mul
  refine ⟨fd, fn_ok (k := cn K) F sc_Web__mul (by decide) fun cdv A outer s H E hr => ?_, F.bindsN fun _ _ _ _ _ _ us hl => match us, hl with | [_, _], _ => rfl, F.kp⟩
  have tk : CT.Takes (cxOf (L2N.CX P w) P w K mg base ["self", "other", "u", "v", "number"] "Web.__mul__" (defScope s_Web__mul) (a_Web__mul K) cdv A outer s H E) (fun c d _ H => E c d H) := CT.takes_of rfl rfl rfl rfl
  exact (dss_cons (ds_if (dt_not (dt_val (de_call tk F_is_integer ar_is_integer (hr.mono (by decide)) (by rfl) T.g_is_integer kp_is_integer B_is_integer .nil (fun _ _ _ => .nil) (da_cons (dv 1) da_nil)))) (dss_one ds_never) dss_nil)
  (dss_cons (ds_if (dt_val (de_callB (cr_any rfl) d_any (by rfl) T.n_any (by decide +kernel) (da_cons (de_lc (own := [("u", 2), ("v", 3), ("number", 4)]) false rfl rfl sc_Web__mul.nd (di_seq rfl (de_fld 0 2 rfl T.cl_Web T.no_Web_ties (nd_Web (K := K)) rfl (dv 0))) (blkOk_by (own := [("u", 2), ("v", 3), ("number", 4)]) rfl) (by decide) (fun _ _ _ _ _ => (tg_tp [2, 3, 4] rfl rfl (pgs_cons (pg_name (i := 2) sc_Web__mul.nd rfl (by first | exact Or.inl rfl | exact Or.inr rfl)) (pgs_cons (pg_name (i := 3) sc_Web__mul.nd rfl (by first | exact Or.inl rfl | exact Or.inr rfl)) (pgs_cons (pg_name (i := 4) sc_Web__mul.nd rfl (by first | exact Or.inl rfl | exact Or.inr rfl)) pgs_nil))))) (fun _ _ _ _ _ => dts_nil) (fun _ _ _ _ _ => (de_cmp op_gt d_gt (de_op op_mul d_mul (dv 4) (dv 1)) (de_glob (fun _ _ _ => .int _) (by rfl) h_MOST ⟨_, rfl⟩) (nomark _)))) da_nil))) (dss_one ds_never) dss_nil)
  (dss_one (ds_ret (de_make false 0 3 tk rfl T.mk_Web F_Web__init ar_Web__init rfl (hr.mono (by decide)) (by rfl) T.g_Web B_Web__init .nil (fun _ _ _ => .nil) (da_cons (de_fld 0 0 rfl T.cl_Web T.no_Web_size (nd_Web (K := K)) rfl (dv 0)) (da_cons (de_lc (own := [("u", 2), ("v", 3), ("number", 4)]) false rfl rfl sc_Web__mul.nd (di_seq rfl (de_fld 0 2 rfl T.cl_Web T.no_Web_ties (nd_Web (K := K)) rfl (dv 0))) (blkOk_by (own := [("u", 2), ("v", 3), ("number", 4)]) rfl) (by decide) (fun _ _ _ _ _ => (tg_tp [2, 3, 4] rfl rfl (pgs_cons (pg_name (i := 2) sc_Web__mul.nd rfl (by first | exact Or.inl rfl | exact Or.inr rfl)) (pgs_cons (pg_name (i := 3) sc_Web__mul.nd rfl (by first | exact Or.inl rfl | exact Or.inr rfl)) (pgs_cons (pg_name (i := 4) sc_Web__mul.nd rfl (by first | exact Or.inl rfl | exact Or.inr rfl)) pgs_nil))))) (fun _ _ _ _ _ => dts_nil) (fun _ _ _ _ _ => (de_tup (da_cons (dv 2) (da_cons (dv 3) (da_cons (de_op op_mul d_mul (dv 4) (dv 1)) da_nil)))))) da_nil)))))))
theorem sc_Web__rmul : FnScope ["self", "other"] ["self", "other"] (defScope s_Web__rmul) := ⟨rfl, rfl, rfl, by decide +kernel, rfl, by decide +kernel, by decide +kernel⟩
def b_Web__rmul_0 : MS := (sIf (tNotM (mTst (mCall m_is_integer [] (mCons (mVar 1) mNil)))) sNever sNext)
def b_Web__rmul_1 : MS := (sRet (mMulR 0 m_Web__mul (mVar 0) (mVar 1)))
def b_Web__rmul : MS := (sSeq b_Web__rmul_0 b_Web__rmul_1)
def m_Web__rmul : MF := mDef 2 2 b_Web__rmul
theorem e_Web__rmul (x0 x1 : D) (C : Store) : m_Web__rmul [x0, x1] C = finS C.length (b_Web__rmul ⟨C.length, [some x0, some x1]⟩ C) := mDef_e rfl rfl
theorem ar_Web__rmul : Ar 2 m_Web__rmul := mDef_ar
theorem ok_Web__rmul (T : Txt K mg) : ∃ fd, FnG P w K mg base 7 (a_Web__rmul K) fd ["self", "other"] (SpD (cn K) 2 m_Web__rmul) ∧ Binds K fd ["self", "other"] [] ∧ PySem.W.keepIn K (.ref (a_Web__rmul K)) = true := by
  obtain ⟨fd_is_integer, F_is_integer, B_is_integer, kp_is_integer⟩ := ok_is_integer (P := P) (w := w) (base := base) T
  obtain ⟨fd_Web__mul, F_Web__mul, B_Web__mul, kp_Web__mul⟩ := ok_Web__mul (P := P) (w := w) (base := base) T
  obtain ⟨fd, F⟩ := T.f_Web__rmul
  refine ⟨fd, fn_ok (k := cn K) F sc_Web__rmul (by decide) fun cdv A outer s H E hr => ?_, F.bindsN fun _ _ _ _ _ _ us hl => match us, hl with | [_, _], _ => rfl, F.kp⟩
  have tk : CT.Takes (cxOf (L2N.CX P w) P w K mg base ["self", "other"] "Web.__rmul__" (defScope s_Web__rmul) (a_Web__rmul K) cdv A outer s H E) (fun c d _ H => E c d H) := CT.takes_of rfl rfl rfl rfl
  exact (dss_cons (ds_if (dt_not (dt_val (de_call tk F_is_integer ar_is_integer (hr.mono (by decide)) (by rfl) T.g_is_integer kp_is_integer B_is_integer .nil (fun _ _ _ => .nil) (da_cons (dv 1) da_nil)))) (dss_one ds_never) dss_nil)
  (dss_one (ds_ret (de_mulR 0 tk rfl (dv 0) (dv 1) T.mu_Web F_Web__mul ar_Web__mul (hr.mono (by decide)) B_Web__mul))))
theorem sc_Web_within : FnScope ["self", "other", "u", "v", "number"] ["self", "other"] (defScope s_Web_within) := ⟨rfl, rfl, rfl, by decide +kernel, rfl, by decide +kernel, by decide +kernel⟩
def b_Web_within_0 : MS := (sIf (mTst (mOp (oEqA true) (mUn (oFld 0 0) (mVar 0)) (mUn (oFld 0 0) (mVar 1)))) (sRet (mC (.bl false))) sNext)
def b_Web_within_1 : MS := (sRet (mAp oAll (mCons (mLc false (mSeq (mUn (oFld 0 2) (mVar 0))) (Tgt.tp [2, 3, 4]).M tYesM (mOp oLe (mVar 4) (mOp oIx (mOp oIx (mUn (oFld 0 1) (mVar 1)) (mVar 2)) (mVar 3))) [2, 3, 4]) mNil)))
def b_Web_within : MS := (sSeq b_Web_within_0 b_Web_within_1)
def m_Web_within : MF := mDef 2 5 b_Web_within
theorem e_Web_within (x0 x1 : D) (C : Store) : m_Web_within [x0, x1] C = finS C.length (b_Web_within ⟨C.length, [some x0, some x1, none, none, none]⟩ C) := mDef_e rfl rfl
theorem ar_Web_within : Ar 2 m_Web_within := mDef_ar
theorem ok_Web_within (T : Txt K mg) : ∃ fd, FnG P w K mg base 1 (a_Web_within K) fd ["self", "other"] (SpD (cn K) 2 m_Web_within) ∧ Binds K fd ["self", "other"] [] ∧ PySem.W.keepIn K (.ref (a_Web_within K)) = true := by
  obtain ⟨fd, F⟩ := T.f_Web_within
  refine ⟨fd, fn_ok (k := cn K) F sc_Web_within (by decide) fun cdv A outer s H E hr => ?_, F.bindsN fun _ _ _ _ _ _ us hl => match us, hl with | [_, _], _ => rfl, F.kp⟩
  have tk : CT.Takes (cxOf (L2N.CX P w) P w K mg base ["self", "other", "u", "v", "number"] "Web.within" (defScope s_Web_within) (a_Web_within K) cdv A outer s H E) (fun c d _ H => E c d H) := CT.takes_of rfl rfl rfl rfl
  exact (dss_cons (ds_if (dt_cmp (op_ne.or (op_neD hr.room.units)) d_neA (de_fld 0 0 rfl T.cl_Web T.no_Web_size (nd_Web (K := K)) rfl (dv 0)) (de_fld 0 0 rfl T.cl_Web T.no_Web_size (nd_Web (K := K)) rfl (dv 1)) (nomark _)) (dss_one (ds_ret de_bl)) dss_nil)
  (dss_one (ds_ret (de_callB (cr_all rfl) d_all (by rfl) T.n_all (by decide +kernel) (da_cons (de_lc (own := [("u", 2), ("v", 3), ("number", 4)]) false rfl rfl sc_Web_within.nd (di_seq rfl (de_fld 0 2 rfl T.cl_Web T.no_Web_ties (nd_Web (K := K)) rfl (dv 0))) (blkOk_by (own := [("u", 2), ("v", 3), ("number", 4)]) rfl) (by decide) (fun _ _ _ _ _ => (tg_tp [2, 3, 4] rfl rfl (pgs_cons (pg_name (i := 2) sc_Web_within.nd rfl (by first | exact Or.inl rfl | exact Or.inr rfl)) (pgs_cons (pg_name (i := 3) sc_Web_within.nd rfl (by first | exact Or.inl rfl | exact Or.inr rfl)) (pgs_cons (pg_name (i := 4) sc_Web_within.nd rfl (by first | exact Or.inl rfl | exact Or.inr rfl)) pgs_nil))))) (fun _ _ _ _ _ => dts_nil) (fun _ _ _ _ _ => (de_cmp op_le d_le (dv 4) (de_ix ix_seq d_ix (de_ix ix_seq d_ix (de_fld 0 1 rfl T.cl_Web T.no_Web_grid (nd_Web (K := K)) rfl (dv 1)) (dv 2)) (dv 3)) (nomark _)))) da_nil)))))
theorem sc_Web_crossing : FnScope ["self", "ones", "others", "u", "v"] ["self", "ones", "others"] (defScope s_Web_crossing) := ⟨rfl, rfl, rfl, by decide +kernel, rfl, by decide +kernel, by decide +kernel⟩
def b_Web_crossing : MS := (sRet (mAp oSum (mCons (mLc2 false (mSeq (mVar 1)) (Tgt.nm 3).M tYesM (mSeq (mVar 2)) (Tgt.nm 4).M tYesM (mOp oIx (mOp oIx (mUn (oFld 0 1) (mVar 0)) (mVar 3)) (mVar 4)) [3, 4] [4]) mNil)))
def m_Web_crossing : MF := mDef 3 5 b_Web_crossing
theorem e_Web_crossing (x0 x1 x2 : D) (C : Store) : m_Web_crossing [x0, x1, x2] C = finS C.length (b_Web_crossing ⟨C.length, [some x0, some x1, some x2, none, none]⟩ C) := mDef_e rfl rfl
theorem ar_Web_crossing : Ar 3 m_Web_crossing := mDef_ar
theorem ok_Web_crossing (T : Txt K mg) : ∃ fd, FnG P w K mg base 1 (a_Web_crossing K) fd ["self", "ones", "others"] (SpD (cn K) 3 m_Web_crossing) ∧ Binds K fd ["self", "ones", "others"] [] ∧ PySem.W.keepIn K (.ref (a_Web_crossing K)) = true := by
  obtain ⟨fd, F⟩ := T.f_Web_crossing
  refine ⟨fd, fn_ok (k := cn K) F sc_Web_crossing (by decide) fun cdv A outer s H E hr => ?_, F.bindsN fun _ _ _ _ _ _ us hl => match us, hl with | [_, _, _], _ => rfl, F.kp⟩
  have tk : CT.Takes (cxOf (L2N.CX P w) P w K mg base ["self", "ones", "others", "u", "v"] "Web.crossing" (defScope s_Web_crossing) (a_Web_crossing K) cdv A outer s H E) (fun c d _ H => E c d H) := CT.takes_of rfl rfl rfl rfl
  exact (dss_one (ds_ret (de_callB (cr_sum rfl) d_sum (by rfl) T.n_sum (by decide +kernel) (da_cons (de_lc2 (own := [("u", 3), ("v", 4)]) (vs1 := [4]) false rfl rfl sc_Web_crossing.nd (di_seq rfl (dv 1)) (blkOk_by (own := [("u", 3), ("v", 4)]) rfl) (by decide) (by decide) (by decide) (fun _ _ _ _ _ => (tg_nm (i := 3) sc_Web_crossing.nd rfl (by first | exact Or.inl rfl | exact Or.inr rfl))) (fun _ _ _ _ _ => dts_nil) (fun _ _ _ _ _ => (di_seq rfl (dv 2))) (fun _ _ _ _ _ => (tg_nm (i := 4) sc_Web_crossing.nd rfl (by first | exact Or.inl rfl | exact Or.inr rfl))) (fun _ _ _ _ _ => dts_nil) (fun _ _ _ _ _ => (de_ix ix_seq d_ix (de_ix ix_seq d_ix (de_fld 0 1 rfl T.cl_Web T.no_Web_grid (nd_Web (K := K)) rfl (dv 0)) (dv 3)) (dv 4)))) da_nil))))
theorem sc_beside : FnScope ["one", "other", "late", "u", "v", "number"] ["one", "other"] (defScope s_beside) := ⟨rfl, rfl, rfl, by decide +kernel, rfl, by decide +kernel, by decide +kernel⟩
def b_beside_0 : MS := (sIf (mTst (mOp oGt (mOp oAdd (mUn (oFld 0 0) (mVar 0)) (mUn (oFld 0 0) (mVar 1))) (mC (.int 60)))) sNever sNext)
def b_beside_1 : MS := (sAsg (mLc false (mSeq (mUn (oFld 0 2) (mVar 1))) (Tgt.tp [3, 4, 5]).M tYesM (mAp oTup (mCons (mOp oAdd (mVar 3) (mUn (oFld 0 0) (mVar 0))) (mCons (mOp oAdd (mVar 4) (mUn (oFld 0 0) (mVar 0))) (mCons (mVar 5) mNil)))) [3, 4, 5]) (gN 2))
def b_beside_2 : MS := (sRet (mMake false 0 3 m_Web__init [] (mCons (mOp oAdd (mUn (oFld 0 0) (mVar 0)) (mUn (oFld 0 0) (mVar 1))) (mCons (mOp (oCat false) (mAp (oListOf false) (mCons (mUn (oFld 0 2) (mVar 0)) mNil)) (mVar 2)) mNil))))
def b_beside : MS := (sSeq b_beside_0 (sSeq b_beside_1 b_beside_2))
def m_beside : MF := mDef 2 6 b_beside
theorem e_beside (x0 x1 : D) (C : Store) : m_beside [x0, x1] C = finS C.length (b_beside ⟨C.length, [some x0, some x1, none, none, none, none]⟩ C) := mDef_e rfl rfl
theorem ar_beside : Ar 2 m_beside := mDef_ar
theorem ok_beside (T : Txt K mg) : ∃ fd, FnG P w K mg base 6 (a_beside K) fd ["one", "other"] (SpD (cn K) 2 m_beside) ∧ Binds K fd ["one", "other"] [] ∧ PySem.W.keepIn K (.ref (a_beside K)) = true := by
  obtain ⟨fd_Web__init, F_Web__init, B_Web__init, kp_Web__init, ds_Web__init, vd_Web__init, Bd_Web__init⟩ := ok_Web__init (P := P) (w := w) (base := base) T
  obtain ⟨fd, F⟩ := T.f_beside
  refine ⟨fd, fn_ok (k := cn K) F sc_beside (by decide) fun cdv A outer s H E hr => ?_, F.bindsN fun _ _ _ _ _ _ us hl => match us, hl with | [_, _], _ => rfl, F.kp⟩
  have tk : CT.Takes (cxOf (L2N.CX P w) P w K mg base ["one", "other", "late", "u", "v", "number"] "beside" (defScope s_beside) (a_beside K) cdv A outer s H E) (fun c d _ H => E c d H) := CT.takes_of rfl rfl rfl rfl
  exact (dss_cons (ds_if (dt_cmp op_gt d_gt (de_op op_add d_add (de_fld 0 0 rfl T.cl_Web T.no_Web_size (nd_Web (K := K)) rfl (dv 0)) (de_fld 0 0 rfl T.cl_Web T.no_Web_size (nd_Web (K := K)) rfl (dv 1))) de_int (nomark _)) (dss_one ds_never) dss_nil)
  (dss_cons (ds_setLc (i := 2) (own := [("u", 3), ("v", 4), ("number", 5)]) false rfl rfl sc_beside.nd rfl rfl (sw_true rfl rfl rfl (by decide +kernel)) (di_seq rfl (de_fld 0 2 rfl T.cl_Web T.no_Web_ties (nd_Web (K := K)) rfl (dv 1))) (blkOk_by (own := [("u", 3), ("v", 4), ("number", 5)]) rfl) (by decide) (fun _ _ _ _ _ => (tg_tp [3, 4, 5] rfl rfl (pgs_cons (pg_name (i := 3) sc_beside.nd rfl (by first | exact Or.inl rfl | exact Or.inr rfl)) (pgs_cons (pg_name (i := 4) sc_beside.nd rfl (by first | exact Or.inl rfl | exact Or.inr rfl)) (pgs_cons (pg_name (i := 5) sc_beside.nd rfl (by first | exact Or.inl rfl | exact Or.inr rfl)) pgs_nil))))) (fun _ _ _ _ _ => dts_nil) (fun _ _ _ _ _ => (de_tup (da_cons (de_op op_add d_add (dv 3) (de_fld 0 0 rfl T.cl_Web T.no_Web_size (nd_Web (K := K)) rfl (dv 0))) (da_cons (de_op op_add d_add (dv 4) (de_fld 0 0 rfl T.cl_Web T.no_Web_size (nd_Web (K := K)) rfl (dv 0))) (da_cons (dv 5) da_nil))))))
  (dss_one (ds_ret (de_make false 0 3 tk rfl T.mk_Web F_Web__init ar_Web__init rfl (hr.mono (by decide)) (by rfl) T.g_Web B_Web__init .nil (fun _ _ _ => .nil) (da_cons (de_op op_add d_add (de_fld 0 0 rfl T.cl_Web T.no_Web_size (nd_Web (K := K)) rfl (dv 0)) (de_fld 0 0 rfl T.cl_Web T.no_Web_size (nd_Web (K := K)) rfl (dv 1))) (da_cons (de_op op_cat (d_cat false) (de_callTy call_list_of (d_listOf false) (by rfl) T.n_list (by decide +kernel) (da_cons (de_fld 0 2 rfl T.cl_Web T.no_Web_ties (nd_Web (K := K)) rfl (dv 0)) da_nil)) (dv 2)) da_nil)))))))
theorem sc_renamed : FnScope ["web", "order", "u", "v", "number"] ["web", "order"] (defScope s_renamed) := ⟨rfl, rfl, rfl, by decide +kernel, rfl, by decide +kernel, by decide +kernel⟩
def b_renamed : MS := (sRet (mMake false 0 3 m_Web__init [] (mCons (mUn (oFld 0 0) (mVar 0)) (mCons (mLc false (mSeq (mUn (oFld 0 2) (mVar 0))) (Tgt.tp [2, 3, 4]).M tYesM (mAp oTup (mCons (mOp oIx (mVar 1) (mVar 2)) (mCons (mOp oIx (mVar 1) (mVar 3)) (mCons (mVar 4) mNil)))) [2, 3, 4]) mNil))))
def m_renamed : MF := mDef 2 5 b_renamed
theorem e_renamed (x0 x1 : D) (C : Store) : m_renamed [x0, x1] C = finS C.length (b_renamed ⟨C.length, [some x0, some x1, none, none, none]⟩ C) := mDef_e rfl rfl
theorem ar_renamed : Ar 2 m_renamed := mDef_ar
theorem ok_renamed (T : Txt K mg) : ∃ fd, FnG P w K mg base 6 (a_renamed K) fd ["web", "order"] (SpD (cn K) 2 m_renamed) ∧ Binds K fd ["web", "order"] [] ∧ PySem.W.keepIn K (.ref (a_renamed K)) = true := by
  obtain ⟨fd_Web__init, F_Web__init, B_Web__init, kp_Web__init, ds_Web__init, vd_Web__init, Bd_Web__init⟩ := ok_Web__init (P := P) (w := w) (base := base) T
  obtain ⟨fd, F⟩ := T.f_renamed
  refine ⟨fd, fn_ok (k := cn K) F sc_renamed (by decide) fun cdv A outer s H E hr => ?_, F.bindsN fun _ _ _ _ _ _ us hl => match us, hl with | [_, _], _ => rfl, F.kp⟩
  have tk : CT.Takes (cxOf (L2N.CX P w) P w K mg base ["web", "order", "u", "v", "number"] "renamed" (defScope s_renamed) (a_renamed K) cdv A outer s H E) (fun c d _ H => E c d H) := CT.takes_of rfl rfl rfl rfl
  exact (dss_one (ds_ret (de_make false 0 3 tk rfl T.mk_Web F_Web__init ar_Web__init rfl (hr.mono (by decide)) (by rfl) T.g_Web B_Web__init .nil (fun _ _ _ => .nil) (da_cons (de_fld 0 0 rfl T.cl_Web T.no_Web_size (nd_Web (K := K)) rfl (dv 0)) (da_cons (de_lc (own := [("u", 2), ("v", 3), ("number", 4)]) false rfl rfl sc_renamed.nd (di_seq rfl (de_fld 0 2 rfl T.cl_Web T.no_Web_ties (nd_Web (K := K)) rfl (dv 0))) (blkOk_by (own := [("u", 2), ("v", 3), ("number", 4)]) rfl) (by decide) (fun _ _ _ _ _ => (tg_tp [2, 3, 4] rfl rfl (pgs_cons (pg_name (i := 2) sc_renamed.nd rfl (by first | exact Or.inl rfl | exact Or.inr rfl)) (pgs_cons (pg_name (i := 3) sc_renamed.nd rfl (by first | exact Or.inl rfl | exact Or.inr rfl)) (pgs_cons (pg_name (i := 4) sc_renamed.nd rfl (by first | exact Or.inl rfl | exact Or.inr rfl)) pgs_nil))))) (fun _ _ _ _ _ => dts_nil) (fun _ _ _ _ _ => (de_tup (da_cons (de_ix ix_seq d_ix (dv 1) (dv 2)) (da_cons (de_ix ix_seq d_ix (dv 1) (dv 3)) (da_cons (dv 4) da_nil)))))) da_nil)))))
theorem sc_moved : FnScope ["row", "order", "found", "v", "item"] ["row", "order"] (defScope s_moved) := ⟨rfl, rfl, rfl, by decide +kernel, rfl, by decide +kernel, by decide +kernel⟩
def b_moved_0 : MS := (sAsg (mAp (oListOf true) (mCons (mVar 0) mNil)) (gN 2))
def b_moved_1b_0 : MS := (sSetL (mVar 4) (mVar 2) (mOp oIx (mVar 1) (mVar 3)))
def b_moved_1 : MS := (sFor (mEnum (mVar 0)) (Tgt.tp [3, 4]).M b_moved_1b_0)
def b_moved_2 : MS := (sRet (mAp oTupOf (mCons (mVar 2) mNil)))
def b_moved : MS := (sSeq b_moved_0 (sSeq b_moved_1 b_moved_2))
def m_moved : MF := mDef 2 5 b_moved
theorem e_moved (x0 x1 : D) (C : Store) : m_moved [x0, x1] C = finS C.length (b_moved ⟨C.length, [some x0, some x1, none, none, none]⟩ C) := mDef_e rfl rfl
theorem ar_moved : Ar 2 m_moved := mDef_ar
theorem ok_moved (T : Txt K mg) : ∃ fd, FnG P w K mg base 1 (a_moved K) fd ["row", "order"] (SpD (cn K) 2 m_moved) ∧ Binds K fd ["row", "order"] [] ∧ PySem.W.keepIn K (.ref (a_moved K)) = true := by
  obtain ⟨fd, F⟩ := T.f_moved
  refine ⟨fd, fn_ok (k := cn K) F sc_moved (by decide) fun cdv A outer s H E hr => ?_, F.bindsN fun _ _ _ _ _ _ us hl => match us, hl with | [_, _], _ => rfl, F.kp⟩
  have tk : CT.Takes (cxOf (L2N.CX P w) P w K mg base ["row", "order", "found", "v", "item"] "moved" (defScope s_moved) (a_moved K) cdv A outer s H E) (fun c d _ H => E c d H) := CT.takes_of rfl rfl rfl rfl
  exact (dss_cons (ds_set (i := 2) sc_moved.nd rfl (Or.inl rfl) (de_callTy call_list_of (d_listOf true) (by rfl) T.n_list (by decide +kernel) (da_cons (dv 0) da_nil)))
  (dss_cons (ds_for (passes_of rfl) rfl (di_enum (by rfl) T.n_enumerate rfl (dv 0)) (tg_tp [3, 4] rfl rfl (pgs_cons (pg_name (i := 3) sc_moved.nd rfl (Or.inl rfl)) (pgs_cons (pg_name (i := 4) sc_moved.nd rfl (Or.inl rfl)) pgs_nil))) (dss_one (ds_setL (dv 4) (pg_sub (dv 2) (de_ix ix_seq d_ix (dv 1) (dv 3)) set_list))))
  (dss_one (ds_ret (de_callTy call_tuple_of d_tupOf (by rfl) T.n_tuple (by decide +kernel) (da_cons (dv 2) da_nil))))))
theorem sc_law_bag : FnScope ["_law_script", "_law_cell"] ["_law_script"] (defScope s_law_bag) := ⟨rfl, rfl, rfl, by decide +kernel, rfl, by decide +kernel, by decide +kernel⟩
def b_law_bag : MS := (sRet (mAp (oLst true) (mCons (mC (.int 0)) (mCons (mC (.int 1234567891)) (mCons (mC (.int 0)) (mCons (mLc false (mSeq (mSlL false (mVar 0) mNoPart (mPart (mC (.int 63))))) (Tgt.nm 1).M tYesM (mAp oAbs (mCons (mVar 1) mNil)) [1]) mNil))))))
def m_law_bag : MF := mDefO 1 2 b_law_bag
theorem ar_law_bag : Ar 1 m_law_bag := mDefO_ar
theorem ok_law_bag (T : Txt K mg) : ∃ fd, FnG P w K mg base 1 (a_law_bag K) fd ["_law_script"] (SpD (cn K) 1 m_law_bag) ∧ Binds K fd ["_law_script"] [] ∧ PySem.W.keepIn K (.ref (a_law_bag K)) = true := by
  obtain ⟨fd, F⟩ := T.f_law_bag
  refine ⟨fd, fn_okO (k := cn K) F sc_law_bag (by decide) fun cdv A outer s H E hr => ?_, F.bindsN fun _ _ _ _ _ _ us hl => match us, hl with | [_], _ => rfl, F.kp⟩
  have tk : CT.Takes (cxOf (L2N.CX P w) P w K mg base ["_law_script", "_law_cell"] "_law_bag" (defScope s_law_bag) (a_law_bag K) cdv A outer s H E) (fun c d _ H => E c d H) := CT.takes_of rfl rfl rfl rfl
  exact (dss_one (ds_ret (de_lst true (da_cons de_int (da_cons de_int (da_cons de_int (da_cons (de_lc (own := [("_law_cell", 1)]) false rfl rfl sc_law_bag.nd (di_seq rfl (de_slL false rfl (dv 0) do_none (do_some de_int))) (blkOk_by (own := [("_law_cell", 1)]) rfl) (by decide) (fun _ _ _ _ _ => (tg_nm (i := 1) sc_law_bag.nd rfl (by first | exact Or.inl rfl | exact Or.inr rfl))) (fun _ _ _ _ _ => dts_nil) (fun _ _ _ _ _ => (de_callB call_abs d_abs (by rfl) T.n_abs (by decide +kernel) (da_cons (dv 1) da_nil)))) da_nil)))))))
theorem sc_law_take : FnScope ["_law_bag_here", "_law_many", "_law_cell", "_law_mixed_here", "_law_drawn", "_law_early", "_law_second"] ["_law_bag_here", "_law_many"] (defScope s_law_take) := ⟨rfl, rfl, rfl, by decide +kernel, rfl, by decide +kernel, by decide +kernel⟩
def b_law_take_0t_0 : MS := (sAsg (mC (.int 0)) (gN 2))
def b_law_take_0t_1 : MS := (sIf (mTst (mOp oLt (mOp oIx (mVar 0) (mC (.int 2))) (mAp oLen (mCons (mOp oIx (mVar 0) (mC (.int 3))) mNil)))) (sAsg (mOp oIx (mOp oIx (mVar 0) (mC (.int 3))) (mOp oIx (mVar 0) (mC (.int 2)))) (gN 2)) sNext)
def b_law_take_0t_2 : MS := (sAugL (· + ·) (mVar 0) (mC (.int 2)) (mC (.int 1)))
def b_law_take_0t_3 : MS := (sIf (mTst (mOp oGe (mVar 2) (mC (.int 1000000000000000000)))) (sSetL (mVar 2) (mVar 0) (mC (.int 0))) sNext)
def b_law_take_0t_4 : MS := (sAsg (mOp oAdd (mOp oAdd (mOp oMul (mOp oIx (mVar 0) (mC (.int 1))) (mC (.int 48271))) (mOp oMod (mAp oInt (mCons (mVar 2) mNil)) (mC (.int 2147483647)))) (mOp oMul (mC (.int 7919)) (mOp oIx (mVar 0) (mC (.int 2))))) (gN 3))
def b_law_take_0t_5 : MS := (sSetL (mOp oMod (mAp oInt (mCons (mVar 3) mNil)) (mC (.int 2147483647))) (mVar 0) (mC (.int 1)))
def b_law_take_0 : MS := (sIf (mTst (mOp (oEqA false) (mOp oIx (mVar 0) (mC (.int 0))) (mC (.int 0)))) (sSeq b_law_take_0t_0 (sSeq b_law_take_0t_1 (sSeq b_law_take_0t_2 (sSeq b_law_take_0t_3 (sSeq b_law_take_0t_4 b_law_take_0t_5))))) sNext)
def b_law_take_1t_0 : MS := (sAsg (mOp oMod (mAp oInt (mCons (mOp oIx (mVar 0) (mC (.int 0))) mNil)) (mVar 1)) (gN 4))
def b_law_take_1t_1 : MS := (sSetL (mOp oDiv (mAp oInt (mCons (mOp oIx (mVar 0) (mC (.int 0))) mNil)) (mVar 1)) (mVar 0) (mC (.int 0)))
def b_law_take_1t_2 : MS := (sRet (mVar 4))
def b_law_take_1 : MS := (sIf (mTst (mOp oGt (mOp oIx (mVar 0) (mC (.int 0))) (mC (.int 0)))) (sSeq b_law_take_1t_0 (sSeq b_law_take_1t_1 b_law_take_1t_2)) sNext)
def b_law_take_2 : MS := (sAsg (mOp oMod (mAp oInt (mCons (mOp oMul (mOp oAdd (mOp oIx (mVar 0) (mC (.int 1))) (mC (.int 1))) (mC (.int 39373))) mNil)) (mC (.int 1000000007))) (gN 5))
def b_law_take_3 : MS := (sAsg (mOp oMod (mAp oInt (mCons (mOp oMul (mOp oMod (mAp oInt (mCons (mOp oMul (mVar 5) (mVar 5)) mNil)) (mC (.int 998244353))) (mC (.int 30011))) mNil)) (mC (.int 998244353))) (gN 6))
def b_law_take_4 : MS := (sRet (mOp oMod (mAp oInt (mCons (mOp oDiv (mVar 6) (mC (.int 7))) mNil)) (mVar 1)))
def b_law_take : MS := (sSeq b_law_take_0 (sSeq b_law_take_1 (sSeq b_law_take_2 (sSeq b_law_take_3 b_law_take_4))))
def m_law_take : MF := mDef 2 7 b_law_take
theorem e_law_take (x0 x1 : D) (C : Store) : m_law_take [x0, x1] C = finS C.length (b_law_take ⟨C.length, [some x0, some x1, none, none, none, none, none]⟩ C) := mDef_e rfl rfl
theorem ar_law_take : Ar 2 m_law_take := mDef_ar
theorem ok_law_take (T : Txt K mg) : ∃ fd, FnG P w K mg base 1 (a_law_take K) fd ["_law_bag_here", "_law_many"] (SpD (cn K) 2 m_law_take) ∧ Binds K fd ["_law_bag_here", "_law_many"] [] ∧ PySem.W.keepIn K (.ref (a_law_take K)) = true := by
  obtain ⟨fd, F⟩ := T.f_law_take
  refine ⟨fd, fn_ok (k := cn K) F sc_law_take (by decide) fun cdv A outer s H E hr => ?_, F.bindsN fun _ _ _ _ _ _ us hl => match us, hl with | [_, _], _ => rfl, F.kp⟩
  have tk : CT.Takes (cxOf (L2N.CX P w) P w K mg base ["_law_bag_here", "_law_many", "_law_cell", "_law_mixed_here", "_law_drawn", "_law_early", "_law_second"] "_law_take" (defScope s_law_take) (a_law_take K) cdv A outer s H E) (fun c d _ H => E c d H) := CT.takes_of rfl rfl rfl rfl
  exact (dss_cons (ds_if (dt_cmp (op_eq.or (op_eqD hr.room.units)) d_eqA (de_ix ix_seq d_ix (dv 0) de_int) de_int (nomark _)) (dss_cons (ds_set (i := 2) sc_law_take.nd rfl (Or.inl rfl) de_int)
  (dss_cons (ds_if (dt_cmp op_lt d_lt (de_ix ix_seq d_ix (dv 0) de_int) (de_callB call_len_seq d_len (by rfl) T.n_len (by decide +kernel) (da_cons (de_ix ix_seq d_ix (dv 0) de_int) da_nil)) (nomark _)) (dss_one (ds_set (i := 2) sc_law_take.nd rfl (Or.inl rfl) (de_ix ix_seq d_ix (de_ix ix_seq d_ix (dv 0) de_int) (de_ix ix_seq d_ix (dv 0) de_int)))) dss_nil)
  (dss_cons (ds_augL ip_add (dv 0) de_int de_int)
  (dss_cons (ds_if (dt_cmp op_ge d_ge (dv 2) de_int (nomark _)) (dss_one (ds_setL (dv 2) (pg_sub (dv 0) de_int set_list))) dss_nil)
  (dss_cons (ds_set (i := 3) sc_law_take.nd rfl (Or.inl rfl) (de_op op_add d_add (de_op op_add d_add (de_op op_mul d_mul (de_ix ix_seq d_ix (dv 0) de_int) de_int) (de_op op_mod d_mod (de_callTy call_int1 d_int (by rfl) T.n_int (by decide +kernel) (da_cons (dv 2) da_nil)) de_int)) (de_op op_mul d_mul de_int (de_ix ix_seq d_ix (dv 0) de_int))))
  (dss_one (ds_setL (de_op op_mod d_mod (de_callTy call_int1 d_int (by rfl) T.n_int (by decide +kernel) (da_cons (dv 3) da_nil)) de_int) (pg_sub (dv 0) de_int set_list)))))))) dss_nil)
  (dss_cons (ds_if (dt_cmp op_gt d_gt (de_ix ix_seq d_ix (dv 0) de_int) de_int (nomark _)) (dss_cons (ds_set (i := 4) sc_law_take.nd rfl (Or.inl rfl) (de_op op_mod d_mod (de_callTy call_int1 d_int (by rfl) T.n_int (by decide +kernel) (da_cons (de_ix ix_seq d_ix (dv 0) de_int) da_nil)) (dv 1)))
  (dss_cons (ds_setL (de_op op_fdivW d_div (de_callTy call_int1 d_int (by rfl) T.n_int (by decide +kernel) (da_cons (de_ix ix_seq d_ix (dv 0) de_int) da_nil)) (dv 1)) (pg_sub (dv 0) de_int set_list))
  (dss_one (ds_ret (dv 4))))) dss_nil)
  (dss_cons (ds_set (i := 5) sc_law_take.nd rfl (Or.inl rfl) (de_op op_mod d_mod (de_callTy call_int1 d_int (by rfl) T.n_int (by decide +kernel) (da_cons (de_op op_mul d_mul (de_op op_add d_add (de_ix ix_seq d_ix (dv 0) de_int) de_int) de_int) da_nil)) de_int))
  (dss_cons (ds_set (i := 6) sc_law_take.nd rfl (Or.inl rfl) (de_op op_mod d_mod (de_callTy call_int1 d_int (by rfl) T.n_int (by decide +kernel) (da_cons (de_op op_mul d_mul (de_op op_mod d_mod (de_callTy call_int1 d_int (by rfl) T.n_int (by decide +kernel) (da_cons (de_op op_mul d_mul (dv 5) (dv 5)) da_nil)) de_int) de_int) da_nil)) de_int))
  (dss_one (ds_ret (de_op op_mod d_mod (de_callTy call_int1 d_int (by rfl) T.n_int (by decide +kernel) (da_cons (de_op op_fdivW d_div (dv 6) de_int) da_nil)) (dv 1))))))))
theorem sc_law_mixed : FnScope ["_law_bag_here", "_law_things", "_law_found", "_law_thing"] ["_law_bag_here", "_law_things"] (defScope s_law_mixed) := ⟨rfl, rfl, rfl, by decide +kernel, rfl, by decide +kernel, by decide +kernel⟩
def b_law_mixed_0 : MS := (sAsg (mAp (oLst true) mNil) (gN 2))
def b_law_mixed_1b_0 : MS := (sDrop (mInsert (mVar 2) (mCall m_law_take [] (mCons (mVar 0) (mCons (mOp oAdd (mAp oLen (mCons (mVar 2) mNil)) (mC (.int 1))) mNil))) (mVar 3)))
def b_law_mixed_1 : MS := (sFor (mSeq (mVar 1)) (Tgt.nm 3).M b_law_mixed_1b_0)
def b_law_mixed_2 : MS := (sRet (mVar 2))
def b_law_mixed : MS := (sSeq b_law_mixed_0 (sSeq b_law_mixed_1 b_law_mixed_2))
def m_law_mixed : MF := mDef 2 4 b_law_mixed
theorem e_law_mixed (x0 x1 : D) (C : Store) : m_law_mixed [x0, x1] C = finS C.length (b_law_mixed ⟨C.length, [some x0, some x1, none, none]⟩ C) := mDef_e rfl rfl
theorem ar_law_mixed : Ar 2 m_law_mixed := mDef_ar
theorem ok_law_mixed (T : Txt K mg) : ∃ fd, FnG P w K mg base 2 (a_law_mixed K) fd ["_law_bag_here", "_law_things"] (SpD (cn K) 2 m_law_mixed) ∧ Binds K fd ["_law_bag_here", "_law_things"] [] ∧ PySem.W.keepIn K (.ref (a_law_mixed K)) = true := by
  obtain ⟨fd_law_take, F_law_take, B_law_take, kp_law_take⟩ := ok_law_take (P := P) (w := w) (base := base) T
  obtain ⟨fd, F⟩ := T.f_law_mixed
  refine ⟨fd, fn_ok (k := cn K) F sc_law_mixed (by decide) fun cdv A outer s H E hr => ?_, F.bindsN fun _ _ _ _ _ _ us hl => match us, hl with | [_, _], _ => rfl, F.kp⟩
  have tk : CT.Takes (cxOf (L2N.CX P w) P w K mg base ["_law_bag_here", "_law_things", "_law_found", "_law_thing"] "_law_mixed" (defScope s_law_mixed) (a_law_mixed K) cdv A outer s H E) (fun c d _ H => E c d H) := CT.takes_of rfl rfl rfl rfl
  exact (dss_cons (ds_set (i := 2) sc_law_mixed.nd rfl (Or.inl rfl) (de_lst true da_nil))
  (dss_cons (ds_for (passes_of rfl) rfl (di_seq rfl (dv 1)) (tg_nm (i := 3) sc_law_mixed.nd rfl (Or.inl rfl)) (dss_one (ds_expr (de_insert rfl (dv 2) (de_call tk F_law_take ar_law_take (hr.mono (by decide)) (by rfl) T.g_law_take kp_law_take B_law_take .nil (fun _ _ _ => .nil) (da_cons (dv 0) (da_cons (de_op op_add d_add (de_callB call_len_seq d_len (by rfl) T.n_len (by decide +kernel) (da_cons (dv 2) da_nil)) de_int) da_nil))) (dv 3)))))
  (dss_one (ds_ret (dv 2)))))
theorem sc_law_web : FnScope ["_law_bag_here", "_law_size", "_law_found", "_law_k", "_law_u", "_law_v"] ["_law_bag_here", "_law_size"] (defScope s_law_web) := ⟨rfl, rfl, rfl, by decide +kernel, rfl, by decide +kernel, by decide +kernel⟩
def b_law_web_0 : MS := (sAsg (mAp (oLst true) mNil) (gN 2))
def b_law_web_1b_0 : MS := (sAsg (mCall m_law_take [] (mCons (mVar 0) (mCons (mVar 1) mNil))) (gN 4))
def b_law_web_1b_1 : MS := (sAsg (mOp oMod (mAp oInt (mCons (mOp oAdd (mOp oAdd (mVar 4) (mC (.int 1))) (mCall m_law_take [] (mCons (mVar 0) (mCons (mOp oSub (mVar 1) (mC (.int 1))) mNil)))) mNil)) (mVar 1)) (gN 5))
def b_law_web_1b_2 : MS := (sDrop (mAppend (mVar 2) (mAp oTup (mCons (mVar 4) (mCons (mVar 5) (mCons (mOp oIx (mAp (oLst false) (mCons (mC (.int 1)) (mCons (mC (.int 2)) (mCons (mCall m_law_take [] (mCons (mVar 0) (mCons (mC (.int 4)) mNil))) (mCons (mCall m_law_take [] (mCons (mVar 0) (mCons (mC (.int 4001)) mNil))) mNil))))) (mCall m_law_take [] (mCons (mVar 0) (mCons (mC (.int 4)) mNil)))) mNil))))))
def b_law_web_1 : MS := (sFor (mRng1 (mIf (mTst (mOp oGt (mVar 1) (mC (.int 1)))) (mCall m_law_take [] (mCons (mVar 0) (mCons (mC (.int 26)) mNil))) (mC (.int 0)))) (Tgt.nm 3).M (sSeq b_law_web_1b_0 (sSeq b_law_web_1b_1 b_law_web_1b_2)))
def b_law_web_2 : MS := (sRet (mMake false 0 3 m_Web__init [] (mCons (mVar 1) (mCons (mVar 2) mNil))))
def b_law_web : MS := (sSeq b_law_web_0 (sSeq b_law_web_1 b_law_web_2))
def m_law_web : MF := mDef 2 6 b_law_web
theorem e_law_web (x0 x1 : D) (C : Store) : m_law_web [x0, x1] C = finS C.length (b_law_web ⟨C.length, [some x0, some x1, none, none, none, none]⟩ C) := mDef_e rfl rfl
theorem ar_law_web : Ar 2 m_law_web := mDef_ar
theorem ok_law_web (T : Txt K mg) : ∃ fd, FnG P w K mg base 6 (a_law_web K) fd ["_law_bag_here", "_law_size"] (SpD (cn K) 2 m_law_web) ∧ Binds K fd ["_law_bag_here", "_law_size"] [] ∧ PySem.W.keepIn K (.ref (a_law_web K)) = true := by
  obtain ⟨fd_law_take, F_law_take, B_law_take, kp_law_take⟩ := ok_law_take (P := P) (w := w) (base := base) T
  obtain ⟨fd_Web__init, F_Web__init, B_Web__init, kp_Web__init, ds_Web__init, vd_Web__init, Bd_Web__init⟩ := ok_Web__init (P := P) (w := w) (base := base) T
  obtain ⟨fd, F⟩ := T.f_law_web
  refine ⟨fd, fn_ok (k := cn K) F sc_law_web (by decide) fun cdv A outer s H E hr => ?_, F.bindsN fun _ _ _ _ _ _ us hl => match us, hl with | [_, _], _ => rfl, F.kp⟩
  have tk : CT.Takes (cxOf (L2N.CX P w) P w K mg base ["_law_bag_here", "_law_size", "_law_found", "_law_k", "_law_u", "_law_v"] "_law_web" (defScope s_law_web) (a_law_web K) cdv A outer s H E) (fun c d _ H => E c d H) := CT.takes_of rfl rfl rfl rfl
  exact (dss_cons (ds_set (i := 2) sc_law_web.nd rfl (Or.inl rfl) (de_lst true da_nil))
  (dss_cons (ds_for (passes_of rfl) rfl (di_rng1 (by rfl) T.n_range (de_if (dt_cmp op_gt d_gt (dv 1) de_int (nomark _)) (de_call tk F_law_take ar_law_take (hr.mono (by decide)) (by rfl) T.g_law_take kp_law_take B_law_take .nil (fun _ _ _ => .nil) (da_cons (dv 0) (da_cons de_int da_nil))) de_int)) (tg_nm (i := 3) sc_law_web.nd rfl (Or.inl rfl)) (dss_cons (ds_set (i := 4) sc_law_web.nd rfl (Or.inl rfl) (de_call tk F_law_take ar_law_take (hr.mono (by decide)) (by rfl) T.g_law_take kp_law_take B_law_take .nil (fun _ _ _ => .nil) (da_cons (dv 0) (da_cons (dv 1) da_nil))))
  (dss_cons (ds_set (i := 5) sc_law_web.nd rfl (Or.inl rfl) (de_op op_mod d_mod (de_callTy call_int1 d_int (by rfl) T.n_int (by decide +kernel) (da_cons (de_op op_add d_add (de_op op_add d_add (dv 4) de_int) (de_call tk F_law_take ar_law_take (hr.mono (by decide)) (by rfl) T.g_law_take kp_law_take B_law_take .nil (fun _ _ _ => .nil) (da_cons (dv 0) (da_cons (de_op op_sub d_sub (dv 1) de_int) da_nil)))) da_nil)) (dv 1)))
  (dss_one (ds_expr (de_append rfl (dv 2) (de_tup (da_cons (dv 4) (da_cons (dv 5) (da_cons (de_ix ix_seq d_ix (de_lst false (da_cons de_int (da_cons de_int (da_cons (de_call tk F_law_take ar_law_take (hr.mono (by decide)) (by rfl) T.g_law_take kp_law_take B_law_take .nil (fun _ _ _ => .nil) (da_cons (dv 0) (da_cons de_int da_nil))) (da_cons (de_call tk F_law_take ar_law_take (hr.mono (by decide)) (by rfl) T.g_law_take kp_law_take B_law_take .nil (fun _ _ _ => .nil) (da_cons (dv 0) (da_cons de_int da_nil))) da_nil))))) (de_call tk F_law_take ar_law_take (hr.mono (by decide)) (by rfl) T.g_law_take kp_law_take B_law_take .nil (fun _ _ _ => .nil) (da_cons (dv 0) (da_cons de_int da_nil)))) da_nil))))))))))
  (dss_one (ds_ret (de_make false 0 3 tk rfl T.mk_Web F_Web__init ar_Web__init rfl (hr.mono (by decide)) (by rfl) T.g_Web B_Web__init .nil (fun _ _ _ => .nil) (da_cons (dv 1) (da_cons (dv 2) da_nil)))))))
theorem sc_law_sum : FnScope ["_law_one", "_law_other", "_law_times", "_law_x", "_law_y"] ["_law_one", "_law_other", "_law_times"] (defScope s_law_sum) := ⟨rfl, rfl, rfl, by decide +kernel, rfl, by decide +kernel, by decide +kernel⟩
def b_law_sum : MS := (sRet (mAp oTupOf (mCons (mLc false (mZipX (mCons (mVar 0) (mCons (mVar 1) mNil))) (Tgt.tp [3, 4]).M tYesM (mOp oAdd (mVar 3) (mOp oMul (mVar 2) (mVar 4))) [3, 4]) mNil)))
def m_law_sum : MF := mDef 3 5 b_law_sum
theorem e_law_sum (x0 x1 x2 : D) (C : Store) : m_law_sum [x0, x1, x2] C = finS C.length (b_law_sum ⟨C.length, [some x0, some x1, some x2, none, none]⟩ C) := mDef_e rfl rfl
theorem ar_law_sum : Ar 3 m_law_sum := mDef_ar
theorem ok_law_sum (T : Txt K mg) : ∃ fd, FnG P w K mg base 1 (a_law_sum K) fd ["_law_one", "_law_other", "_law_times"] (SpD (cn K) 3 m_law_sum) ∧ Binds K fd ["_law_one", "_law_other", "_law_times"] [] ∧ PySem.W.keepIn K (.ref (a_law_sum K)) = true := by
  obtain ⟨fd, F⟩ := T.f_law_sum
  refine ⟨fd, fn_ok (k := cn K) F sc_law_sum (by decide) fun cdv A outer s H E hr => ?_, F.bindsN fun _ _ _ _ _ _ us hl => match us, hl with | [_, _, _], _ => rfl, F.kp⟩
  have tk : CT.Takes (cxOf (L2N.CX P w) P w K mg base ["_law_one", "_law_other", "_law_times", "_law_x", "_law_y"] "_law_sum" (defScope s_law_sum) (a_law_sum K) cdv A outer s H E) (fun c d _ H => E c d H) := CT.takes_of rfl rfl rfl rfl
  exact (dss_one (ds_ret (de_callTy call_tuple_of d_tupOf (by rfl) T.n_tuple (by decide +kernel) (da_cons (de_lc (own := [("_law_x", 3), ("_law_y", 4)]) false rfl rfl sc_law_sum.nd (di_zipX (by rfl) T.n_zip rfl (da_cons (dv 0) (da_cons (dv 1) da_nil))) (blkOk_by (own := [("_law_x", 3), ("_law_y", 4)]) rfl) (by decide) (fun _ _ _ _ _ => (tg_tp [3, 4] rfl rfl (pgs_cons (pg_name (i := 3) sc_law_sum.nd rfl (by first | exact Or.inl rfl | exact Or.inr rfl)) (pgs_cons (pg_name (i := 4) sc_law_sum.nd rfl (by first | exact Or.inl rfl | exact Or.inr rfl)) pgs_nil)))) (fun _ _ _ _ _ => dts_nil) (fun _ _ _ _ _ => (de_op op_add d_add (dv 3) (de_op op_mul d_mul (dv 2) (dv 4))))) da_nil))))
theorem sc_law_fits : FnScope ["_law_one", "_law_other", "e", "_law_u", "_law_v"] ["_law_one", "_law_other"] (defScope s_law_fits) := ⟨rfl, rfl, rfl, by decide +kernel, rfl, by decide +kernel, by decide +kernel⟩
def b_law_fitsx_0 : MS := (sAsg (mUn (oXf 3 0) (mVar 2)) (Tgt.tp [3, 4]).M)
def b_law_fitsx_1 : MS := (sRet (mIf (tAndM (mTst (mOp oLt (mVar 3) (mVar 4))) (mTst (mOp oGt (mIxO 0 m_Web__getitem (mVar 0) (mAp oTup (mCons (mVar 3) (mCons (mVar 4) mNil)))) (mIxO 0 m_Web__getitem (mVar 1) (mAp oTup (mCons (mVar 3) (mCons (mVar 4) mNil))))))) (mC (.bl false)) (mC .non)))
def b_law_fitst_ : MS := (sRet (mEqO false 0 m_Web__eq (mVar 1) (mBinO 0 m_Web__add (mBinO 0 m_Web__sub (mVar 1) (mVar 0)) (mVar 0))))
def b_law_fitsx_ : MS := (sSeq b_law_fitsx_0 b_law_fitsx_1)
def b_law_fits : MS := (sTry 2 [3] [2, 4] b_law_fitst_ b_law_fitsx_)
def m_law_fits : MF := mDef 2 5 b_law_fits
theorem e_law_fits (x0 x1 : D) (C : Store) : m_law_fits [x0, x1] C = finS C.length (b_law_fits ⟨C.length, [some x0, some x1, none, none, none]⟩ C) := mDef_e rfl rfl
theorem ar_law_fits : Ar 2 m_law_fits := mDef_ar
theorem ok_law_fits (T : Txt K mg) : ∃ fd, FnG P w K mg base 7 (a_law_fits K) fd ["_law_one", "_law_other"] (SpD (cn K) 2 m_law_fits) ∧ Binds K fd ["_law_one", "_law_other"] [] ∧ PySem.W.keepIn K (.ref (a_law_fits K)) = true := by
  obtain ⟨fd_Web__sub, F_Web__sub, B_Web__sub, kp_Web__sub⟩ := ok_Web__sub (P := P) (w := w) (base := base) T
  obtain ⟨fd_Web__add, F_Web__add, B_Web__add, kp_Web__add⟩ := ok_Web__add (P := P) (w := w) (base := base) T
  obtain ⟨fd_Web__eq, F_Web__eq, B_Web__eq, kp_Web__eq⟩ := ok_Web__eq (P := P) (w := w) (base := base) T
  obtain ⟨fd_Web__getitem, F_Web__getitem, B_Web__getitem, kp_Web__getitem⟩ := ok_Web__getitem (P := P) (w := w) (base := base) T
  obtain ⟨fdH_Web__getitem, FH_Web__getitem, BH_Web__getitem, kpH_Web__getitem⟩ := okH_Web__getitem (P := P) (w := w) (base := base) T
  obtain ⟨fd, F⟩ := T.f_law_fits
  refine ⟨fd, fn_ok (k := cn K) F sc_law_fits (by decide) fun cdv A outer s H E hr => ?_, F.bindsN fun _ _ _ _ _ _ us hl => match us, hl with | [_, _], _ => rfl, F.kp⟩
  have tk : CT.Takes (cxOf (L2N.CX P w) P w K mg base ["_law_one", "_law_other", "e", "_law_u", "_law_v"] "_law_fits" (defScope s_law_fits) (a_law_fits K) cdv A outer s H E) (fun c d _ H => E c d H) := CT.takes_of rfl rfl rfl rfl
  exact (dss_one (ds_try (i := 2) (cs := [3]) (ds := [2, 4]) rfl rfl sc_law_fits.nd rfl rfl ⟨by rfl, by decide, .inl T.g_TooFew⟩ tk rfl rfl T.exm_TooFew.yes T.exm_TooFew.no
  (fun W pn xe tk1 po1 => (dss_one (ds_ret (de_eqO 0 tk1 rfl (dv 1) (de_binO 0 tk1 rfl (de_binO 0 tk1 rfl (dv 1) (dv 0) T.sf_Web T.dn_Web__sub.at_ T.dn_Web__sub.fn F_Web__sub ar_Web__sub (hr.mono (by decide)) B_Web__sub) (dv 0) T.sf_Web T.dn_Web__add.at_ T.dn_Web__add.fn F_Web__add ar_Web__add (hr.mono (by decide)) B_Web__add) T.eq_Web F_Web__eq ar_Web__eq (hr.mono (by decide)) B_Web__eq))))
  (fun a oe c dd pn hcc hz hv => (dss_cons (ds_asgT (de_xf 3 0 rfl (T.xs.exc 3 (by decide)).xf T.nox_TooFew_pair nd_TooFew rfl hz hv (dv 2)) (tg_tpH [3, 4] rfl (hotS hz hv) (pgs_cons (pg_name (i := 3) sc_law_fits.nd rfl (Or.inl rfl)) (pgs_cons (pg_name (i := 4) sc_law_fits.nd rfl (Or.inl rfl)) pgs_nil))))
  (dss_one (ds_ret (de_if (PW.pt (dw_and (dt_cmp op_lt d_lt (dv 3) (dv 4) (nomark _)) (dw_and1 (dt_cmp op_gt d_gt (de_ixOH 0 rfl (dv 0) (de_tup (da_cons (dv 3) (da_cons (dv 4) da_nil))) T.dn_Web__getitem.at_ T.dn_Web__getitem.fi T.dn_Web__getitem.fn (FH_Web__getitem a c dd) ar_Web__getitem ((hr.suite _).mono (by decide)) (hotS hz hv) BH_Web__getitem) (de_ixOH 0 rfl (dv 1) (de_tup (da_cons (dv 3) (da_cons (dv 4) da_nil))) T.dn_Web__getitem.at_ T.dn_Web__getitem.fi T.dn_Web__getitem.fn (FH_Web__getitem a c dd) ar_Web__getitem ((hr.suite _).mono (by decide)) (hotS hz hv) BH_Web__getitem) (nomark _))))) de_bl de_non)))))))
theorem sc_law_counts_right : FnScope ["_law_web_here", "_law_size", "_law_v", "_law_u", "_law_number"] ["_law_web_here", "_law_size"] (defScope s_law_counts_right) := ⟨rfl, rfl, rfl, by decide +kernel, rfl, by decide +kernel, by decide +kernel⟩
def b_law_counts_right_0 : MS := (sIf (tOrM (mTst (mOp (oEqA true) (mAp oLen (mCons (mProp 0 m_Web_degrees (mVar 0)) mNil)) (mVar 1))) (mTst (mOp (oEqA true) (mOp oMul (mC (.int 2)) (mProp 0 m_Web_total (mVar 0))) (mAp oSum (mCons (mAp (oListOf false) (mCons (mProp 0 m_Web_degrees (mVar 0)) mNil)) mNil))))) (sRet (mC (.bl false))) sNext)
def b_law_counts_right_1 : MS := (sIf (tOrM (mTst (mOp (oEqA true) (mProp 0 m_Web_total (mVar 0)) (mAp oSum (mCons (mLc false (mSeq (mUn (oFld 0 2) (mVar 0))) (Tgt.tp [3, 2, 4]).M tYesM (mVar 4) [3, 2, 4]) mNil)))) (mTst (mOp (oEqA true) (mUn (oFld 0 0) (mVar 0)) (mVar 1)))) (sRet (mC (.bl false))) sNext)
def b_law_counts_right_2b_0 : MS := (sIf (mTst (mOp (oEqA true) (mOp oIx (mProp 0 m_Web_degrees (mVar 0)) (mVar 2)) (mAp oSum (mCons (mLc false (mRng1 (mVar 1)) (Tgt.nm 3).M (mTst (mOp (oEqA true) (mVar 3) (mVar 2))) (mIxO 0 m_Web__getitem (mVar 0) (mAp oTup (mCons (mVar 3) (mCons (mVar 2) mNil)))) [3]) mNil)))) (sRet (mC (.bl false))) sNext)
def b_law_counts_right_2 : MS := (sFor (mRng1 (mVar 1)) (Tgt.nm 2).M b_law_counts_right_2b_0)
def b_law_counts_right_3 : MS := (sRet (mC (.bl true)))
def b_law_counts_right : MS := (sSeq b_law_counts_right_0 (sSeq b_law_counts_right_1 (sSeq b_law_counts_right_2 b_law_counts_right_3)))
def m_law_counts_right : MF := mDef 2 5 b_law_counts_right
theorem e_law_counts_right (x0 x1 : D) (C : Store) : m_law_counts_right [x0, x1] C = finS C.length (b_law_counts_right ⟨C.length, [some x0, some x1, none, none, none]⟩ C) := mDef_e rfl rfl
theorem ar_law_counts_right : Ar 2 m_law_counts_right := mDef_ar
theorem ok_law_counts_right (T : Txt K mg) : ∃ fd, FnG P w K mg base 3 (a_law_counts_right K) fd ["_law_web_here", "_law_size"] (SpD (cn K) 2 m_law_counts_right) ∧ Binds K fd ["_law_web_here", "_law_size"] [] ∧ PySem.W.keepIn K (.ref (a_law_counts_right K)) = true := by
  obtain ⟨fd_Web_degrees, F_Web_degrees, B_Web_degrees, kp_Web_degrees⟩ := ok_Web_degrees (P := P) (w := w) (base := base) T
  obtain ⟨fd_Web_total, F_Web_total, B_Web_total, kp_Web_total⟩ := ok_Web_total (P := P) (w := w) (base := base) T
  obtain ⟨fd_Web__getitem, F_Web__getitem, B_Web__getitem, kp_Web__getitem⟩ := ok_Web__getitem (P := P) (w := w) (base := base) T
  obtain ⟨fd, F⟩ := T.f_law_counts_right
  refine ⟨fd, fn_ok (k := cn K) F sc_law_counts_right (by decide) fun cdv A outer s H E hr => ?_, F.bindsN fun _ _ _ _ _ _ us hl => match us, hl with | [_, _], _ => rfl, F.kp⟩
  have tk : CT.Takes (cxOf (L2N.CX P w) P w K mg base ["_law_web_here", "_law_size", "_law_v", "_law_u", "_law_number"] "_law_counts_right" (defScope s_law_counts_right) (a_law_counts_right K) cdv A outer s H E) (fun c d _ H => E c d H) := CT.takes_of rfl rfl rfl rfl
  exact (dss_cons (ds_if (PW.pt (dw_or (dt_cmp (op_ne.or (op_neD hr.room.units)) d_neA (de_callB call_len_seq d_len (by rfl) T.n_len (by decide +kernel) (da_cons (de_prop 0 rfl (dv 0) T.cl_Web T.pr_degrees F_Web_degrees ar_Web_degrees (hr.mono (by decide)) B_Web_degrees) da_nil)) (dv 1) (nomark _)) (dw_or1 (dt_cmp (op_ne.or (op_neD hr.room.units)) d_neA (de_op op_mul d_mul de_int (de_prop 0 rfl (dv 0) T.cl_Web T.pr_total F_Web_total ar_Web_total (hr.mono (by decide)) B_Web_total)) (de_callB (cr_sum rfl) d_sum (by rfl) T.n_sum (by decide +kernel) (da_cons (de_callTy call_list_of (d_listOf false) (by rfl) T.n_list (by decide +kernel) (da_cons (de_prop 0 rfl (dv 0) T.cl_Web T.pr_degrees F_Web_degrees ar_Web_degrees (hr.mono (by decide)) B_Web_degrees) da_nil)) da_nil)) (nomark _))))) (dss_one (ds_ret de_bl)) dss_nil)
  (dss_cons (ds_if (PW.pt (dw_or (dt_cmp (op_ne.or (op_neD hr.room.units)) d_neA (de_prop 0 rfl (dv 0) T.cl_Web T.pr_total F_Web_total ar_Web_total (hr.mono (by decide)) B_Web_total) (de_callB (cr_sum rfl) d_sum (by rfl) T.n_sum (by decide +kernel) (da_cons (de_lc (own := [("_law_u", 3), ("_law_v", 2), ("_law_number", 4)]) false rfl rfl sc_law_counts_right.nd (di_seq rfl (de_fld 0 2 rfl T.cl_Web T.no_Web_ties (nd_Web (K := K)) rfl (dv 0))) (blkOk_by (own := [("_law_u", 3), ("_law_v", 2), ("_law_number", 4)]) rfl) (by decide) (fun _ _ _ _ _ => (tg_tp [3, 2, 4] rfl rfl (pgs_cons (pg_name (i := 3) sc_law_counts_right.nd rfl (by first | exact Or.inl rfl | exact Or.inr rfl)) (pgs_cons (pg_name (i := 2) sc_law_counts_right.nd rfl (by first | exact Or.inl rfl | exact Or.inr rfl)) (pgs_cons (pg_name (i := 4) sc_law_counts_right.nd rfl (by first | exact Or.inl rfl | exact Or.inr rfl)) pgs_nil))))) (fun _ _ _ _ _ => dts_nil) (fun _ _ _ _ _ => (dv 4))) da_nil)) (nomark _)) (dw_or1 (dt_cmp (op_ne.or (op_neD hr.room.units)) d_neA (de_fld 0 0 rfl T.cl_Web T.no_Web_size (nd_Web (K := K)) rfl (dv 0)) (dv 1) (nomark _))))) (dss_one (ds_ret de_bl)) dss_nil)
  (dss_cons (ds_for (passes_of rfl) rfl (di_rng1 (by rfl) T.n_range (dv 1)) (tg_nm (i := 2) sc_law_counts_right.nd rfl (Or.inr rfl)) (dss_one (ds_if (dt_cmp (op_ne.or (op_neD hr.room.units)) d_neA (de_ix ix_seq d_ix (de_prop 0 rfl (dv 0) T.cl_Web T.pr_degrees F_Web_degrees ar_Web_degrees (hr.mono (by decide)) B_Web_degrees) (dv 2)) (de_callB (cr_sum rfl) d_sum (by rfl) T.n_sum (by decide +kernel) (da_cons (de_lc (own := [("_law_u", 3)]) false rfl rfl sc_law_counts_right.nd (di_rng1 (by rfl) T.n_range (dv 1)) (blkOk_by (own := [("_law_u", 3)]) rfl) (by decide) (fun _ _ _ _ _ => (tg_nm (i := 3) sc_law_counts_right.nd rfl (by first | exact Or.inl rfl | exact Or.inr rfl))) (fun _ _ _ _ _ => (pts_one (dt_cmp (op_ne.or (op_neD hr.room.units)) d_neA (dv 3) (dv 2) (nomark _)))) (fun _ _ _ _ _ => (de_ixO 0 noTkH rfl (dv 0) (de_tup (da_cons (dv 3) (da_cons (dv 2) da_nil))) T.dn_Web__getitem.at_ T.dn_Web__getitem.fi T.dn_Web__getitem.fn F_Web__getitem ar_Web__getitem (hr.mono (by decide)) B_Web__getitem))) da_nil)) (nomark _)) (dss_one (ds_ret de_bl)) dss_nil)))
  (dss_one (ds_ret de_bl)))))
theorem sc_law_sums_right : FnScope ["_law_one", "_law_other", "_law_third", "_law_k"] ["_law_one", "_law_other", "_law_third", "_law_k"] (defScope s_law_sums_right) := ⟨rfl, rfl, rfl, by decide +kernel, rfl, by decide +kernel, by decide +kernel⟩
def b_law_sums_right_0 : MS := (sIf (tOrM (mTst (mEqO true 0 m_Web__eq (mBinO 0 m_Web__sub (mBinO 0 m_Web__add (mVar 0) (mVar 1)) (mVar 1)) (mVar 0))) (mTst (mEqO true 0 m_Web__eq (mBinO 0 m_Web__add (mVar 0) (mVar 1)) (mBinO 0 m_Web__add (mVar 1) (mVar 0))))) (sRet (mC (.bl false))) sNext)
def b_law_sums_right_1 : MS := (sIf (tOrM (mTst (mEqO true 0 m_Web__eq (mBinO 0 m_Web__add (mBinO 0 m_Web__add (mVar 0) (mVar 1)) (mVar 2)) (mBinO 0 m_Web__add (mVar 0) (mBinO 0 m_Web__add (mVar 1) (mVar 2))))) (mTst (mEqO true 0 m_Web__eq (mMulL 0 m_Web__rmul (mVar 3) (mBinO 0 m_Web__add (mVar 0) (mVar 1))) (mBinO 0 m_Web__add (mMulR 0 m_Web__mul (mVar 0) (mVar 3)) (mMulL 0 m_Web__rmul (mVar 3) (mVar 1)))))) (sRet (mC (.bl false))) sNext)
def b_law_sums_right_2 : MS := (sIf (tOrM (mTst (mEqO true 0 m_Web__eq (mBinO 0 m_Web__sub (mVar 0) (mVar 0)) (mMake false 0 3 m_Web__init [.kt []] (mCons (mUn (oFld 0 0) (mVar 0)) mNil)))) (mTst (mEqO true 0 m_Web__eq (mMulL 0 m_Web__rmul (mC (.int 0)) (mVar 0)) (mMake false 0 3 m_Web__init [.kt []] (mCons (mUn (oFld 0 0) (mVar 0)) mNil))))) (sRet (mC (.bl false))) sNext)
def b_law_sums_right_3 : MS := (sRet (mAnd (mEqO false 0 m_Web__eq (mBinO 0 m_Web__sub (mMulL 0 m_Web__rmul (mOp oAdd (mVar 3) (mC (.int 3))) (mVar 0)) (mMulL 0 m_Web__rmul (mVar 3) (mVar 0))) (mMulL 0 m_Web__rmul (mC (.int 3)) (mVar 0))) (mAnd (mEqO false 0 m_Web__eq (mMulL 0 m_Web__rmul (mC (.int 1)) (mVar 2)) (mVar 2)) (mMeth 0 m_Web_within [] (mVar 0) (mCons (mBinO 0 m_Web__add (mVar 0) (mVar 1)) mNil)))))
def b_law_sums_right : MS := (sSeq b_law_sums_right_0 (sSeq b_law_sums_right_1 (sSeq b_law_sums_right_2 b_law_sums_right_3)))
def m_law_sums_right : MF := mDef 4 4 b_law_sums_right
theorem e_law_sums_right (x0 x1 x2 x3 : D) (C : Store) : m_law_sums_right [x0, x1, x2, x3] C = finS C.length (b_law_sums_right ⟨C.length, [some x0, some x1, some x2, some x3]⟩ C) := mDef_e rfl rfl
theorem ar_law_sums_right : Ar 4 m_law_sums_right := mDef_ar
theorem ok_law_sums_right (T : Txt K mg) : ∃ fd, FnG P w K mg base 8 (a_law_sums_right K) fd ["_law_one", "_law_other", "_law_third", "_law_k"] (SpD (cn K) 4 m_law_sums_right) ∧ Binds K fd ["_law_one", "_law_other", "_law_third", "_law_k"] [] ∧ PySem.W.keepIn K (.ref (a_law_sums_right K)) = true := by
  obtain ⟨fd_Web__add, F_Web__add, B_Web__add, kp_Web__add⟩ := ok_Web__add (P := P) (w := w) (base := base) T
  obtain ⟨fd_Web__sub, F_Web__sub, B_Web__sub, kp_Web__sub⟩ := ok_Web__sub (P := P) (w := w) (base := base) T
  obtain ⟨fd_Web__eq, F_Web__eq, B_Web__eq, kp_Web__eq⟩ := ok_Web__eq (P := P) (w := w) (base := base) T
  obtain ⟨fd_Web__rmul, F_Web__rmul, B_Web__rmul, kp_Web__rmul⟩ := ok_Web__rmul (P := P) (w := w) (base := base) T
  obtain ⟨fd_Web__mul, F_Web__mul, B_Web__mul, kp_Web__mul⟩ := ok_Web__mul (P := P) (w := w) (base := base) T
  obtain ⟨fd_Web__init, F_Web__init, B_Web__init, kp_Web__init, ds_Web__init, vd_Web__init, Bd_Web__init⟩ := ok_Web__init (P := P) (w := w) (base := base) T
  obtain ⟨fd_Web_within, F_Web_within, B_Web_within, kp_Web_within⟩ := ok_Web_within (P := P) (w := w) (base := base) T
  obtain ⟨fd, F⟩ := T.f_law_sums_right
  refine ⟨fd, fn_ok (k := cn K) F sc_law_sums_right (by decide) fun cdv A outer s H E hr => ?_, F.bindsN fun _ _ _ _ _ _ us hl => match us, hl with | [_, _, _, _], _ => rfl, F.kp⟩
  have tk : CT.Takes (cxOf (L2N.CX P w) P w K mg base ["_law_one", "_law_other", "_law_third", "_law_k"] "_law_sums_right" (defScope s_law_sums_right) (a_law_sums_right K) cdv A outer s H E) (fun c d _ H => E c d H) := CT.takes_of rfl rfl rfl rfl
  exact (dss_cons (ds_if (PW.pt (dw_or (dt_neO 0 tk rfl (de_binO 0 tk rfl (de_binO 0 tk rfl (dv 0) (dv 1) T.sf_Web T.dn_Web__add.at_ T.dn_Web__add.fn F_Web__add ar_Web__add (hr.mono (by decide)) B_Web__add) (dv 1) T.sf_Web T.dn_Web__sub.at_ T.dn_Web__sub.fn F_Web__sub ar_Web__sub (hr.mono (by decide)) B_Web__sub) (dv 0) T.eq_Web F_Web__eq ar_Web__eq (hr.mono (by decide)) B_Web__eq) (dw_or1 (dt_neO 0 tk rfl (de_binO 0 tk rfl (dv 0) (dv 1) T.sf_Web T.dn_Web__add.at_ T.dn_Web__add.fn F_Web__add ar_Web__add (hr.mono (by decide)) B_Web__add) (de_binO 0 tk rfl (dv 1) (dv 0) T.sf_Web T.dn_Web__add.at_ T.dn_Web__add.fn F_Web__add ar_Web__add (hr.mono (by decide)) B_Web__add) T.eq_Web F_Web__eq ar_Web__eq (hr.mono (by decide)) B_Web__eq)))) (dss_one (ds_ret de_bl)) dss_nil)
  (dss_cons (ds_if (PW.pt (dw_or (dt_neO 0 tk rfl (de_binO 0 tk rfl (de_binO 0 tk rfl (dv 0) (dv 1) T.sf_Web T.dn_Web__add.at_ T.dn_Web__add.fn F_Web__add ar_Web__add (hr.mono (by decide)) B_Web__add) (dv 2) T.sf_Web T.dn_Web__add.at_ T.dn_Web__add.fn F_Web__add ar_Web__add (hr.mono (by decide)) B_Web__add) (de_binO 0 tk rfl (dv 0) (de_binO 0 tk rfl (dv 1) (dv 2) T.sf_Web T.dn_Web__add.at_ T.dn_Web__add.fn F_Web__add ar_Web__add (hr.mono (by decide)) B_Web__add) T.sf_Web T.dn_Web__add.at_ T.dn_Web__add.fn F_Web__add ar_Web__add (hr.mono (by decide)) B_Web__add) T.eq_Web F_Web__eq ar_Web__eq (hr.mono (by decide)) B_Web__eq) (dw_or1 (dt_neO 0 tk rfl (de_mulL 0 tk rfl (dv 3) (de_binO 0 tk rfl (dv 0) (dv 1) T.sf_Web T.dn_Web__add.at_ T.dn_Web__add.fn F_Web__add ar_Web__add (hr.mono (by decide)) B_Web__add) T.mu_Web F_Web__rmul ar_Web__rmul (hr.mono (by decide)) B_Web__rmul) (de_binO 0 tk rfl (de_mulR 0 tk rfl (dv 0) (dv 3) T.mu_Web F_Web__mul ar_Web__mul (hr.mono (by decide)) B_Web__mul) (de_mulL 0 tk rfl (dv 3) (dv 1) T.mu_Web F_Web__rmul ar_Web__rmul (hr.mono (by decide)) B_Web__rmul) T.sf_Web T.dn_Web__add.at_ T.dn_Web__add.fn F_Web__add ar_Web__add (hr.mono (by decide)) B_Web__add) T.eq_Web F_Web__eq ar_Web__eq (hr.mono (by decide)) B_Web__eq)))) (dss_one (ds_ret de_bl)) dss_nil)
  (dss_cons (ds_if (PW.pt (dw_or (dt_neO 0 tk rfl (de_binO 0 tk rfl (dv 0) (dv 0) T.sf_Web T.dn_Web__sub.at_ T.dn_Web__sub.fn F_Web__sub ar_Web__sub (hr.mono (by decide)) B_Web__sub) (de_make false 0 3 tk rfl T.mk_Web F_Web__init ar_Web__init rfl (hr.mono (by decide)) (by rfl) T.g_Web Bd_Web__init vd_Web__init (fun _ _ _ => .cons (.ktup T.kt_Web__init .nil) .nil) (da_cons (de_fld 0 0 rfl T.cl_Web T.no_Web_size (nd_Web (K := K)) rfl (dv 0)) da_nil)) T.eq_Web F_Web__eq ar_Web__eq (hr.mono (by decide)) B_Web__eq) (dw_or1 (dt_neO 0 tk rfl (de_mulL 0 tk rfl de_int (dv 0) T.mu_Web F_Web__rmul ar_Web__rmul (hr.mono (by decide)) B_Web__rmul) (de_make false 0 3 tk rfl T.mk_Web F_Web__init ar_Web__init rfl (hr.mono (by decide)) (by rfl) T.g_Web Bd_Web__init vd_Web__init (fun _ _ _ => .cons (.ktup T.kt_Web__init .nil) .nil) (da_cons (de_fld 0 0 rfl T.cl_Web T.no_Web_size (nd_Web (K := K)) rfl (dv 0)) da_nil)) T.eq_Web F_Web__eq ar_Web__eq (hr.mono (by decide)) B_Web__eq)))) (dss_one (ds_ret de_bl)) dss_nil)
  (dss_one (ds_ret (de_and (de_eqO 0 tk rfl (de_binO 0 tk rfl (de_mulL 0 tk rfl (de_op op_add d_add (dv 3) de_int) (dv 0) T.mu_Web F_Web__rmul ar_Web__rmul (hr.mono (by decide)) B_Web__rmul) (de_mulL 0 tk rfl (dv 3) (dv 0) T.mu_Web F_Web__rmul ar_Web__rmul (hr.mono (by decide)) B_Web__rmul) T.sf_Web T.dn_Web__sub.at_ T.dn_Web__sub.fn F_Web__sub ar_Web__sub (hr.mono (by decide)) B_Web__sub) (de_mulL 0 tk rfl de_int (dv 0) T.mu_Web F_Web__rmul ar_Web__rmul (hr.mono (by decide)) B_Web__rmul) T.eq_Web F_Web__eq ar_Web__eq (hr.mono (by decide)) B_Web__eq) (de_and (de_eqO 0 tk rfl (de_mulL 0 tk rfl de_int (dv 2) T.mu_Web F_Web__rmul ar_Web__rmul (hr.mono (by decide)) B_Web__rmul) (dv 2) T.eq_Web F_Web__eq ar_Web__eq (hr.mono (by decide)) B_Web__eq) (de_one (de_meth 0 tk rfl (dv 0) T.cl_Web T.me_Web_within F_Web_within ar_Web_within nm_Web_within (hr.mono (by decide)) B_Web_within .nil (fun _ _ _ => .nil) (da_cons (de_binO 0 tk rfl (dv 0) (dv 1) T.sf_Web T.dn_Web__add.at_ T.dn_Web__add.fn F_Web__add ar_Web__add (hr.mono (by decide)) B_Web__add) da_nil))))))))))
theorem sc_law : FnScope ["_law_script", "_law_bag_here", "_law_size", "_law_k", "_law_one", "_law_other", "_law_third", "_law_order", "_law_web_here", "_law_pair", "_law_half", "_law_rest_of", "_law_inner", "_law_u", "_law_v", "_law_number"] ["_law_script"] (defScope s_law) := ⟨rfl, rfl, rfl, by decide +kernel, rfl, by decide +kernel, by decide +kernel⟩
def b_law_0 : MS := (sAsg (mCall m_law_bag [] (mCons (mVar 0) mNil)) (gN 1))
def b_law_1 : MS := (sAsg (mAp oTup (mCons (mOp oIx (mAp (oLst false) (mCons (mCall m_law_take [] (mCons (mVar 1) (mCons (mC (.int 7)) mNil))) (mCons (mCall m_law_take [] (mCons (mVar 1) (mCons (mC (.int 61)) mNil))) mNil))) (mOp oDiv (mCall m_law_take [] (mCons (mVar 1) (mCons (mC (.int 4)) mNil))) (mC (.int 3)))) (mCons (mCall m_law_take [] (mCons (mVar 1) (mCons (mC (.int 200)) mNil))) mNil))) (Tgt.tp [2, 3]).M)
def b_law_2 : MS := (sPar [4, 5, 6] (mCons (mCall m_law_web [] (mCons (mVar 1) (mCons (mVar 2) mNil))) (mCons (mCall m_law_web [] (mCons (mVar 1) (mCons (mVar 2) mNil))) (mCons (mCall m_law_web [] (mCons (mVar 1) (mCons (mVar 2) mNil))) mNil))))
def b_law_3 : MS := (sAsg (mAp oTupOf (mCons (mCall m_law_mixed [] (mCons (mVar 1) (mCons (mLRng1 false (mVar 2)) mNil))) mNil)) (gN 7))
def b_law_4b_0 : MS := (sIf (tNotM (mTst (mCall m_law_counts_right [] (mCons (mVar 8) (mCons (mVar 2) mNil))))) (sRet (mC (.bl false))) sNext)
def b_law_4 : MS := (sFor (mSeq (mAp oTup (mCons (mVar 4) (mCons (mVar 5) (mCons (mVar 6) (mCons (mBinO 0 m_Web__add (mVar 4) (mVar 5)) (mCons (mMulL 0 m_Web__rmul (mVar 3) (mVar 6)) (mCons (mBinO 0 m_Web__sub (mBinO 0 m_Web__add (mVar 4) (mVar 5)) (mVar 5)) mNil)))))))) (Tgt.nm 8).M b_law_4b_0)
def b_law_5 : MS := (sIf (mTst (mOp (oEqA true) (mProp 0 m_Web_degrees (mBinO 0 m_Web__add (mVar 4) (mVar 5))) (mCall m_law_sum [] (mCons (mProp 0 m_Web_degrees (mVar 4)) (mCons (mProp 0 m_Web_degrees (mVar 5)) (mCons (mC (.int 1)) mNil)))))) (sRet (mC (.bl false))) sNext)
def b_law_6 : MS := (sIf (mTst (mOp (oEqA true) (mProp 0 m_Web_degrees (mBinO 0 m_Web__add (mVar 4) (mMulL 0 m_Web__rmul (mVar 3) (mVar 6)))) (mCall m_law_sum [] (mCons (mProp 0 m_Web_degrees (mVar 4)) (mCons (mProp 0 m_Web_degrees (mVar 6)) (mCons (mVar 3) mNil)))))) (sRet (mC (.bl false))) sNext)
def b_law_7 : MS := (sIf (tNotM (mTst (mCall m_law_sums_right [] (mCons (mVar 4) (mCons (mVar 5) (mCons (mVar 6) (mCons (mVar 3) mNil))))))) (sRet (mC (.bl false))) sNext)
def b_law_8 : MS := (sIf (tIfM (mTst (mOp oLt (mVar 2) (mC (.int 31)))) (mTst (mOp (oEqA true) (mProp 0 m_Web_degrees (mCall m_beside [] (mCons (mVar 4) (mCons (mVar 5) mNil)))) (mOp oCatT (mProp 0 m_Web_degrees (mVar 4)) (mProp 0 m_Web_degrees (mVar 5))))) (mTst (mC (.bl false)))) (sRet (mC (.bl false))) sNext)
def b_law_9 : MS := (sIf (mTst (mOp (oEqA true) (mProp 0 m_Web_degrees (mCall m_renamed [] (mCons (mVar 4) (mCons (mVar 7) mNil)))) (mCall m_moved [] (mCons (mProp 0 m_Web_degrees (mVar 4)) (mCons (mVar 7) mNil))))) (sRet (mC (.bl false))) sNext)
def b_law_10 : MS := (sIf (mTst (mEqO true 0 m_Web__eq (mCall m_renamed [] (mCons (mBinO 0 m_Web__add (mVar 4) (mVar 5)) (mCons (mVar 7) mNil))) (mBinO 0 m_Web__add (mCall m_renamed [] (mCons (mVar 4) (mCons (mVar 7) mNil))) (mCall m_renamed [] (mCons (mVar 5) (mCons (mVar 7) mNil)))))) (sRet (mC (.bl false))) sNext)
def b_law_11b_0 : MS := (sIf (mTst (mOp (oEqA true) (mAp oRepr (mCons (mCall m_law_fits [] (mCons (mOp oIx (mVar 9) (mC (.int 0))) (mCons (mOp oIx (mVar 9) (mC (.int 1))) mNil))) mNil)) (mAp oRepr (mCons (mMeth 0 m_Web_within [] (mOp oIx (mVar 9) (mC (.int 0))) (mCons (mOp oIx (mVar 9) (mC (.int 1))) mNil)) mNil)))) (sRet (mC (.bl false))) sNext)
def b_law_11 : MS := (sFor (mSeq (mAp oTup (mCons (mAp oTup (mCons (mVar 4) (mCons (mVar 5) mNil))) (mCons (mAp oTup (mCons (mVar 5) (mCons (mVar 4) mNil))) (mCons (mAp oTup (mCons (mVar 4) (mCons (mBinO 0 m_Web__add (mVar 4) (mVar 6)) mNil))) mNil))))) (Tgt.nm 9).M b_law_11b_0)
def b_law_12 : MS := (sAsg (mLRng1 false (mOp oDiv (mVar 2) (mC (.int 2)))) (gN 10))
def b_law_13 : MS := (sAsg (mLRng2 false (mOp oDiv (mVar 2) (mC (.int 2))) (mVar 2)) (gN 11))
def b_law_14 : MS := (sAsg (mAp oSum (mCons (mLc false (mSeq (mUn (oFld 0 2) (mVar 4))) (Tgt.tp [13, 14, 15]).M (mTst (mOp (oEqA false) (mOp oLt (mVar 13) (mOp oDiv (mVar 2) (mC (.int 2)))) (mOp oLt (mVar 14) (mOp oDiv (mVar 2) (mC (.int 2)))))) (mVar 15) [13, 14, 15]) mNil)) (gN 12))
def b_law_15 : MS := (sRet (mOp (oEqA false) (mOp oAdd (mVar 12) (mMeth 0 m_Web_crossing [] (mVar 4) (mCons (mVar 10) (mCons (mVar 11) mNil)))) (mProp 0 m_Web_total (mVar 4))))
def b_law : MS := (sSeq b_law_0 (sSeq b_law_1 (sSeq b_law_2 (sSeq b_law_3 (sSeq b_law_4 (sSeq b_law_5 (sSeq b_law_6 (sSeq b_law_7 (sSeq b_law_8 (sSeq b_law_9 (sSeq b_law_10 (sSeq b_law_11 (sSeq b_law_12 (sSeq b_law_13 (sSeq b_law_14 b_law_15)))))))))))))))
def m_law : MF := mDef 1 16 b_law
theorem e_law (x0 : D) (C : Store) : m_law [x0] C = finS C.length (b_law ⟨C.length, [some x0, none, none, none, none, none, none, none, none, none, none, none, none, none, none, none]⟩ C) := mDef_e rfl rfl
theorem ok_law (T : Txt K mg) : ∃ fd, FnG P w K mg base 9 (a_law K) fd ["_law_script"] (SpD (cn K) 1 m_law) ∧ Binds K fd ["_law_script"] [] ∧ PySem.W.keepIn K (.ref (a_law K)) = true := by
  obtain ⟨fd_law_bag, F_law_bag, B_law_bag, kp_law_bag⟩ := ok_law_bag (P := P) (w := w) (base := base) T
  obtain ⟨fd_law_take, F_law_take, B_law_take, kp_law_take⟩ := ok_law_take (P := P) (w := w) (base := base) T
  obtain ⟨fd_law_web, F_law_web, B_law_web, kp_law_web⟩ := ok_law_web (P := P) (w := w) (base := base) T
  obtain ⟨fd_law_mixed, F_law_mixed, B_law_mixed, kp_law_mixed⟩ := ok_law_mixed (P := P) (w := w) (base := base) T
  obtain ⟨fd_Web__add, F_Web__add, B_Web__add, kp_Web__add⟩ := ok_Web__add (P := P) (w := w) (base := base) T
  obtain ⟨fd_Web__sub, F_Web__sub, B_Web__sub, kp_Web__sub⟩ := ok_Web__sub (P := P) (w := w) (base := base) T
  obtain ⟨fd_Web__rmul, F_Web__rmul, B_Web__rmul, kp_Web__rmul⟩ := ok_Web__rmul (P := P) (w := w) (base := base) T
  obtain ⟨fd_law_counts_right, F_law_counts_right, B_law_counts_right, kp_law_counts_right⟩ := ok_law_counts_right (P := P) (w := w) (base := base) T
  obtain ⟨fd_Web_degrees, F_Web_degrees, B_Web_degrees, kp_Web_degrees⟩ := ok_Web_degrees (P := P) (w := w) (base := base) T
  obtain ⟨fd_law_sum, F_law_sum, B_law_sum, kp_law_sum⟩ := ok_law_sum (P := P) (w := w) (base := base) T
  obtain ⟨fd_law_sums_right, F_law_sums_right, B_law_sums_right, kp_law_sums_right⟩ := ok_law_sums_right (P := P) (w := w) (base := base) T
  obtain ⟨fd_beside, F_beside, B_beside, kp_beside⟩ := ok_beside (P := P) (w := w) (base := base) T
  obtain ⟨fd_renamed, F_renamed, B_renamed, kp_renamed⟩ := ok_renamed (P := P) (w := w) (base := base) T
  obtain ⟨fd_moved, F_moved, B_moved, kp_moved⟩ := ok_moved (P := P) (w := w) (base := base) T
  obtain ⟨fd_Web__eq, F_Web__eq, B_Web__eq, kp_Web__eq⟩ := ok_Web__eq (P := P) (w := w) (base := base) T
  obtain ⟨fd_law_fits, F_law_fits, B_law_fits, kp_law_fits⟩ := ok_law_fits (P := P) (w := w) (base := base) T
  obtain ⟨fd_Web_within, F_Web_within, B_Web_within, kp_Web_within⟩ := ok_Web_within (P := P) (w := w) (base := base) T
  obtain ⟨fd_Web_crossing, F_Web_crossing, B_Web_crossing, kp_Web_crossing⟩ := ok_Web_crossing (P := P) (w := w) (base := base) T
  obtain ⟨fd_Web_total, F_Web_total, B_Web_total, kp_Web_total⟩ := ok_Web_total (P := P) (w := w) (base := base) T
  obtain ⟨fd, F⟩ := T.f_law
  refine ⟨fd, fn_ok (k := cn K) F sc_law (by decide) fun cdv A outer s H E hr => ?_, F.bindsN fun _ _ _ _ _ _ us hl => match us, hl with | [_], _ => rfl, F.kp⟩
  have tk : CT.Takes (cxOf (L2N.CX P w) P w K mg base ["_law_script", "_law_bag_here", "_law_size", "_law_k", "_law_one", "_law_other", "_law_third", "_law_order", "_law_web_here", "_law_pair", "_law_half", "_law_rest_of", "_law_inner", "_law_u", "_law_v", "_law_number"] "law" (defScope s_law) (a_law K) cdv A outer s H E) (fun c d _ H => E c d H) := CT.takes_of rfl rfl rfl rfl
  exact (dss_cons (ds_set (i := 1) sc_law.nd rfl (Or.inl rfl) (de_call tk F_law_bag ar_law_bag (hr.mono (by decide)) (by rfl) T.g_law_bag kp_law_bag B_law_bag .nil (fun _ _ _ => .nil) (da_cons (dv 0) da_nil)))
  (dss_cons (ds_asgT (de_tup (da_cons (de_ix ix_seq d_ix (de_lst false (da_cons (de_call tk F_law_take ar_law_take (hr.mono (by decide)) (by rfl) T.g_law_take kp_law_take B_law_take .nil (fun _ _ _ => .nil) (da_cons (dv 1) (da_cons de_int da_nil))) (da_cons (de_call tk F_law_take ar_law_take (hr.mono (by decide)) (by rfl) T.g_law_take kp_law_take B_law_take .nil (fun _ _ _ => .nil) (da_cons (dv 1) (da_cons de_int da_nil))) da_nil))) (de_op op_fdivW d_div (de_call tk F_law_take ar_law_take (hr.mono (by decide)) (by rfl) T.g_law_take kp_law_take B_law_take .nil (fun _ _ _ => .nil) (da_cons (dv 1) (da_cons de_int da_nil))) de_int)) (da_cons (de_call tk F_law_take ar_law_take (hr.mono (by decide)) (by rfl) T.g_law_take kp_law_take B_law_take .nil (fun _ _ _ => .nil) (da_cons (dv 1) (da_cons de_int da_nil))) da_nil))) (tg_tp [2, 3] rfl rfl (pgs_cons (pg_name (i := 2) sc_law.nd rfl (Or.inr rfl)) (pgs_cons (pg_name (i := 3) sc_law.nd rfl (Or.inl rfl)) pgs_nil))))
  (dss_cons (ds_par3 (i := 4) (j := 5) (l := 6) rfl sc_law.nd rfl rfl rfl (by decide) (by decide) (by decide) rfl rfl rfl (da_cons (de_call tk F_law_web ar_law_web (hr.mono (by decide)) (by rfl) T.g_law_web kp_law_web B_law_web .nil (fun _ _ _ => .nil) (da_cons (dv 1) (da_cons (dv 2) da_nil))) (da_cons (de_call tk F_law_web ar_law_web (hr.mono (by decide)) (by rfl) T.g_law_web kp_law_web B_law_web .nil (fun _ _ _ => .nil) (da_cons (dv 1) (da_cons (dv 2) da_nil))) (da_cons (de_call tk F_law_web ar_law_web (hr.mono (by decide)) (by rfl) T.g_law_web kp_law_web B_law_web .nil (fun _ _ _ => .nil) (da_cons (dv 1) (da_cons (dv 2) da_nil))) da_nil))))
  (dss_cons (ds_set (i := 7) sc_law.nd rfl (Or.inl rfl) (de_callTy call_tuple_of d_tupOf (by rfl) T.n_tuple (by decide +kernel) (da_cons (de_call tk F_law_mixed ar_law_mixed (hr.mono (by decide)) (by rfl) T.g_law_mixed kp_law_mixed B_law_mixed .nil (fun _ _ _ => .nil) (da_cons (dv 1) (da_cons (de_lrng1 false rfl (by rfl) T.n_list (by rfl) T.n_range (dv 2)) da_nil))) da_nil)))
  (dss_cons (ds_for (passes_of rfl) rfl (di_seq rfl (de_tup (da_cons (dv 4) (da_cons (dv 5) (da_cons (dv 6) (da_cons (de_binO 0 tk rfl (dv 4) (dv 5) T.sf_Web T.dn_Web__add.at_ T.dn_Web__add.fn F_Web__add ar_Web__add (hr.mono (by decide)) B_Web__add) (da_cons (de_mulL 0 tk rfl (dv 3) (dv 6) T.mu_Web F_Web__rmul ar_Web__rmul (hr.mono (by decide)) B_Web__rmul) (da_cons (de_binO 0 tk rfl (de_binO 0 tk rfl (dv 4) (dv 5) T.sf_Web T.dn_Web__add.at_ T.dn_Web__add.fn F_Web__add ar_Web__add (hr.mono (by decide)) B_Web__add) (dv 5) T.sf_Web T.dn_Web__sub.at_ T.dn_Web__sub.fn F_Web__sub ar_Web__sub (hr.mono (by decide)) B_Web__sub) da_nil)))))))) (tg_nm (i := 8) sc_law.nd rfl (Or.inl rfl)) (dss_one (ds_if (dt_not (dt_val (de_call tk F_law_counts_right ar_law_counts_right (hr.mono (by decide)) (by rfl) T.g_law_counts_right kp_law_counts_right B_law_counts_right .nil (fun _ _ _ => .nil) (da_cons (dv 8) (da_cons (dv 2) da_nil))))) (dss_one (ds_ret de_bl)) dss_nil)))
  (dss_cons (ds_if (dt_cmp (op_ne.or (op_neD hr.room.units)) d_neA (de_prop 0 rfl (de_binO 0 tk rfl (dv 4) (dv 5) T.sf_Web T.dn_Web__add.at_ T.dn_Web__add.fn F_Web__add ar_Web__add (hr.mono (by decide)) B_Web__add) T.cl_Web T.pr_degrees F_Web_degrees ar_Web_degrees (hr.mono (by decide)) B_Web_degrees) (de_call tk F_law_sum ar_law_sum (hr.mono (by decide)) (by rfl) T.g_law_sum kp_law_sum B_law_sum .nil (fun _ _ _ => .nil) (da_cons (de_prop 0 rfl (dv 4) T.cl_Web T.pr_degrees F_Web_degrees ar_Web_degrees (hr.mono (by decide)) B_Web_degrees) (da_cons (de_prop 0 rfl (dv 5) T.cl_Web T.pr_degrees F_Web_degrees ar_Web_degrees (hr.mono (by decide)) B_Web_degrees) (da_cons de_int da_nil)))) (nomark _)) (dss_one (ds_ret de_bl)) dss_nil)
  (dss_cons (ds_if (dt_cmp (op_ne.or (op_neD hr.room.units)) d_neA (de_prop 0 rfl (de_binO 0 tk rfl (dv 4) (de_mulL 0 tk rfl (dv 3) (dv 6) T.mu_Web F_Web__rmul ar_Web__rmul (hr.mono (by decide)) B_Web__rmul) T.sf_Web T.dn_Web__add.at_ T.dn_Web__add.fn F_Web__add ar_Web__add (hr.mono (by decide)) B_Web__add) T.cl_Web T.pr_degrees F_Web_degrees ar_Web_degrees (hr.mono (by decide)) B_Web_degrees) (de_call tk F_law_sum ar_law_sum (hr.mono (by decide)) (by rfl) T.g_law_sum kp_law_sum B_law_sum .nil (fun _ _ _ => .nil) (da_cons (de_prop 0 rfl (dv 4) T.cl_Web T.pr_degrees F_Web_degrees ar_Web_degrees (hr.mono (by decide)) B_Web_degrees) (da_cons (de_prop 0 rfl (dv 6) T.cl_Web T.pr_degrees F_Web_degrees ar_Web_degrees (hr.mono (by decide)) B_Web_degrees) (da_cons (dv 3) da_nil)))) (nomark _)) (dss_one (ds_ret de_bl)) dss_nil)
  (dss_cons (ds_if (dt_not (dt_val (de_call tk F_law_sums_right ar_law_sums_right (hr.mono (by decide)) (by rfl) T.g_law_sums_right kp_law_sums_right B_law_sums_right .nil (fun _ _ _ => .nil) (da_cons (dv 4) (da_cons (dv 5) (da_cons (dv 6) (da_cons (dv 3) da_nil))))))) (dss_one (ds_ret de_bl)) dss_nil)
  (dss_cons (ds_if (dt_ifx (dt_cmp op_lt d_lt (dv 2) de_int (nomark _)) (dt_cmp (op_ne.or (op_neD hr.room.units)) d_neA (de_prop 0 rfl (de_call tk F_beside ar_beside (hr.mono (by decide)) (by rfl) T.g_beside kp_beside B_beside .nil (fun _ _ _ => .nil) (da_cons (dv 4) (da_cons (dv 5) da_nil))) T.cl_Web T.pr_degrees F_Web_degrees ar_Web_degrees (hr.mono (by decide)) B_Web_degrees) (de_op op_catA d_catT (de_prop 0 rfl (dv 4) T.cl_Web T.pr_degrees F_Web_degrees ar_Web_degrees (hr.mono (by decide)) B_Web_degrees) (de_prop 0 rfl (dv 5) T.cl_Web T.pr_degrees F_Web_degrees ar_Web_degrees (hr.mono (by decide)) B_Web_degrees)) (nomark _)) (dt_val de_bl)) (dss_one (ds_ret de_bl)) dss_nil)
  (dss_cons (ds_if (dt_cmp (op_ne.or (op_neD hr.room.units)) d_neA (de_prop 0 rfl (de_call tk F_renamed ar_renamed (hr.mono (by decide)) (by rfl) T.g_renamed kp_renamed B_renamed .nil (fun _ _ _ => .nil) (da_cons (dv 4) (da_cons (dv 7) da_nil))) T.cl_Web T.pr_degrees F_Web_degrees ar_Web_degrees (hr.mono (by decide)) B_Web_degrees) (de_call tk F_moved ar_moved (hr.mono (by decide)) (by rfl) T.g_moved kp_moved B_moved .nil (fun _ _ _ => .nil) (da_cons (de_prop 0 rfl (dv 4) T.cl_Web T.pr_degrees F_Web_degrees ar_Web_degrees (hr.mono (by decide)) B_Web_degrees) (da_cons (dv 7) da_nil))) (nomark _)) (dss_one (ds_ret de_bl)) dss_nil)
  (dss_cons (ds_if (dt_neO 0 tk rfl (de_call tk F_renamed ar_renamed (hr.mono (by decide)) (by rfl) T.g_renamed kp_renamed B_renamed .nil (fun _ _ _ => .nil) (da_cons (de_binO 0 tk rfl (dv 4) (dv 5) T.sf_Web T.dn_Web__add.at_ T.dn_Web__add.fn F_Web__add ar_Web__add (hr.mono (by decide)) B_Web__add) (da_cons (dv 7) da_nil))) (de_binO 0 tk rfl (de_call tk F_renamed ar_renamed (hr.mono (by decide)) (by rfl) T.g_renamed kp_renamed B_renamed .nil (fun _ _ _ => .nil) (da_cons (dv 4) (da_cons (dv 7) da_nil))) (de_call tk F_renamed ar_renamed (hr.mono (by decide)) (by rfl) T.g_renamed kp_renamed B_renamed .nil (fun _ _ _ => .nil) (da_cons (dv 5) (da_cons (dv 7) da_nil))) T.sf_Web T.dn_Web__add.at_ T.dn_Web__add.fn F_Web__add ar_Web__add (hr.mono (by decide)) B_Web__add) T.eq_Web F_Web__eq ar_Web__eq (hr.mono (by decide)) B_Web__eq) (dss_one (ds_ret de_bl)) dss_nil)
  (dss_cons (ds_for (passes_of rfl) rfl (di_seq rfl (de_tup (da_cons (de_tup (da_cons (dv 4) (da_cons (dv 5) da_nil))) (da_cons (de_tup (da_cons (dv 5) (da_cons (dv 4) da_nil))) (da_cons (de_tup (da_cons (dv 4) (da_cons (de_binO 0 tk rfl (dv 4) (dv 6) T.sf_Web T.dn_Web__add.at_ T.dn_Web__add.fn F_Web__add ar_Web__add (hr.mono (by decide)) B_Web__add) da_nil))) da_nil))))) (tg_nm (i := 9) sc_law.nd rfl (Or.inl rfl)) (dss_one (ds_if (dt_cmp (op_ne.or (op_neD hr.room.units)) d_neA (de_callB (call_reprD (hr.mono (by decide))) d_repr (by rfl) T.n_repr (by decide +kernel) (da_cons (de_call tk F_law_fits ar_law_fits (hr.mono (by decide)) (by rfl) T.g_law_fits kp_law_fits B_law_fits .nil (fun _ _ _ => .nil) (da_cons (de_ix ix_seq d_ix (dv 9) de_int) (da_cons (de_ix ix_seq d_ix (dv 9) de_int) da_nil))) da_nil)) (de_callB (call_reprD (hr.mono (by decide))) d_repr (by rfl) T.n_repr (by decide +kernel) (da_cons (de_meth 0 tk rfl (de_ix ix_seq d_ix (dv 9) de_int) T.cl_Web T.me_Web_within F_Web_within ar_Web_within nm_Web_within (hr.mono (by decide)) B_Web_within .nil (fun _ _ _ => .nil) (da_cons (de_ix ix_seq d_ix (dv 9) de_int) da_nil)) da_nil)) (nomark _)) (dss_one (ds_ret de_bl)) dss_nil)))
  (dss_cons (ds_set (i := 10) sc_law.nd rfl (Or.inl rfl) (de_lrng1 false rfl (by rfl) T.n_list (by rfl) T.n_range (de_op op_fdivW d_div (dv 2) de_int)))
  (dss_cons (ds_set (i := 11) sc_law.nd rfl (Or.inl rfl) (de_lrng2 false rfl (by rfl) T.n_list (by rfl) T.n_range (de_op op_fdivW d_div (dv 2) de_int) (dv 2)))
  (dss_cons (ds_set (i := 12) sc_law.nd rfl (Or.inl rfl) (de_callB (cr_sum rfl) d_sum (by rfl) T.n_sum (by decide +kernel) (da_cons (de_lc (own := [("_law_u", 13), ("_law_v", 14), ("_law_number", 15)]) false rfl rfl sc_law.nd (di_seq rfl (de_fld 0 2 rfl T.cl_Web T.no_Web_ties (nd_Web (K := K)) rfl (dv 4))) (blkOk_by (own := [("_law_u", 13), ("_law_v", 14), ("_law_number", 15)]) rfl) (by decide) (fun _ _ _ _ _ => (tg_tp [13, 14, 15] rfl rfl (pgs_cons (pg_name (i := 13) sc_law.nd rfl (by first | exact Or.inl rfl | exact Or.inr rfl)) (pgs_cons (pg_name (i := 14) sc_law.nd rfl (by first | exact Or.inl rfl | exact Or.inr rfl)) (pgs_cons (pg_name (i := 15) sc_law.nd rfl (by first | exact Or.inl rfl | exact Or.inr rfl)) pgs_nil))))) (fun _ _ _ _ _ => (pts_one (dt_cmp (op_eq.or (op_eqD hr.room.units)) d_eqA (de_cmp op_lt d_lt (dv 13) (de_op op_fdivW d_div (dv 2) de_int) (nomark _)) (de_cmp op_lt d_lt (dv 14) (de_op op_fdivW d_div (dv 2) de_int) (nomark _)) (nomark _)))) (fun _ _ _ _ _ => (dv 15))) da_nil)))
  (dss_one (ds_ret (de_cmp (op_eq.or (op_eqD hr.room.units)) d_eqA (de_op op_add d_add (dv 12) (de_meth 0 tk rfl (dv 4) T.cl_Web T.me_Web_crossing F_Web_crossing ar_Web_crossing nm_Web_crossing (hr.mono (by decide)) B_Web_crossing .nil (fun _ _ _ => .nil) (da_cons (dv 10) (da_cons (dv 11) da_nil)))) (de_prop 0 rfl (dv 4) T.cl_Web T.pr_total F_Web_total ar_Web_total (hr.mono (by decide)) B_Web_total) (nomark _)))))))))))))))))))
end
end
end CL
set_option maxHeartbeats 0
namespace CL
open PySem L2 PySem.Spec PyProof.Rows CT
theorem room0 : RoomG 9 callerA := ⟨⟨rfl, by decide, by decide⟩, rfl⟩
def LT : Prop := ∀ ns : List Int, ns.length ≤ 63 → ∃ C, m_law [scrD ns] [] = .ok (.bl true) C
theorem law_sp (lt : LT) {K : PySem.W.Frag} {H : Hp} {a : Addr} {ns : List Int} (hl : ns.length ≤ 63) (hO : Only H) (h : SqL K H a (ns.map V.int)) : SpD (cn K) 1 m_law [.ref a] H (fun v _ => v = .bl true) fun _ _ _ => False := by
  obtain ⟨C, e⟩ := lt ns hl
  refine ⟨rfl, fun _ => 0, [], [scrD ns], ⟨fun i c z => (nomatch z), fun i j c e z => (nomatch z)⟩, .cons (rep_scr hO h) .nil, ?_⟩
  rw [e]
  intro A' H' v _ _ r
  cases r
  rfl
theorem ob_eq (s : PySem.W.SharedT) : ob s = hk.obs s.abs := obGb_eq s
end CL
section
open PySem PySem.W PySem.Calls PyProof.Rows
theorem CL.holds_of (lt : CL.LT) : PySem.Challenge.rw_contentties_k27_whole_webs_add_up.Holds := by
  w_on; o_law
  refine HandSHeadRun.head_any (r := OpenLaw.row PySem.Challenge.rw_contentties_k27_whole_webs_add_up) (q := view (OpenLaw.row PySem.Challenge.rw_contentties_k27_whole_webs_add_up).prog [30]) (H := CL.hk) (ob := CL.ob) (M := 20000) (loose := CL.loose) (d := HandSHeadRun.topDef (OpenLaw.row PySem.Challenge.rw_contentties_k27_whole_webs_add_up).prog 30) (kwd := []) CL.ob_eq
    (by kernel_rfl) (fun s => by kernel_rfl) CL.run (by kernel_rfl) (by kernel_rfl) (by kernel_rfl) (by rfl) (by first | assumption | decide +kernel) (by decide +kernel) ⟨rfl, rfl, rfl, rfl, rfl, by decide +kernel⟩ ?hw ?hc
  case hw => w_witness2
  case hc =>
    refine Att.attach_callB (l := PySem.Challenge.rw_contentties_k27_whole_webs_add_up) (n := 63) rfl (by kernel_rfl) fun w s₀ s₁ mg mb fa o pm cd doc a vs ns G Y ho hd hcd hmg0 hobj hints hlen hbits hg => ?_
    obtain ⟨K, KX, c⟩ := Y
    have hmg : mg ("law" : PySem.Str) = some (.ref fa) := by
      have e : (HandSHeadRun.topDef (OpenLaw.row PySem.Challenge.rw_contentties_k27_whole_webs_add_up).prog 30).name = ("law" : PySem.Str) := by kernel_rfl
      rw [← e]
      exact hmg0
    have T := CL.txt KX G.T.g c
    have e := hmg.symm.trans T.g_law
    cases e
    exact CT.law_core KX G.T.g G.T.b G.T.builtins G.T.nolimit hg hobj hints (Nat.le_trans hlen (by decide)) (fun base h1 h2 s H e0 q => by
      obtain ⟨fd, F, B, _⟩ := CL.ok_law (P := (PySem.Challenge.rw_contentties_k27_whole_webs_add_up).prog) (w := w) (base := base) T
      exact F.run callerA [] s H ⟨[.ref a], []⟩ [.ref a] [.ref a] _ _ CL.room0 e0 (B s [.ref a] (fun b o e => (e0.bs b o (h1 b o e)).1) rfl) (.cons rfl .nil) q) (fun H hO hS => CL.law_sp lt hlen hO hS)
end
set_option maxHeartbeats 4000000
namespace CL
open PySem L2 CT
theorem is_integer_int (x : Int) (C : Store) : m_is_integer [.int x] C = .ok (.bl true) C := by
  simp [m_is_integer, b_is_integer, ev_def, isi, tyD, isaT]
theorem is_count_int (x a b : Int) (C : Store) : m_is_count [.int x, .int a, .int b] C = .ok (.bl (decide (a ≤ x) && decide (x ≤ b))) C := by
  simp [m_is_count, b_is_count, ev_def, is_integer_int]
  by_cases h : a ≤ x <;> simp [h]
/-! ### the bag -/
def bagC (a b c : Int) (cs : List Int) : Cell := .lst [.int a, .int b, .int c, .lst (cs.map .int)]
section
variable {a b c n : Int} {cs : List Int} {C : Store} {i : Nat}
theorem mul1 (x : Int) (C : Store) : oMul (.int x) (.int 48271) C = some (.int (x * 48271), C) := ev_mul C (by simp [cMul])
theorem mul2 (x : Int) (C : Store) : oMul (.int 7919) (.int x) C = some (.int (7919 * x), C) := ev_mul C (by simp [cMul])
theorem mul3 (x : Int) (C : Store) : oMul (.int x) (.int 39373) C = some (.int (x * 39373), C) := ev_mul C (by simp [cMul])
theorem mul4 (x : Int) (C : Store) : oMul (.int x) (.int 30011) C = some (.int (x * 30011), C) := ev_mul C (by simp [cMul])
theorem mod1 (x : Int) (C : Store) : oMod (.int x) (.int 2147483647) C = some (.int (x % 2147483647), C) := ev_mod C (by decide)
theorem mod2 (x : Int) (C : Store) : oMod (.int x) (.int 1000000007) C = some (.int (x % 1000000007), C) := ev_mod C (by decide)
theorem mod3 (x : Int) (C : Store) : oMod (.int x) (.int 998244353) C = some (.int (x % 998244353), C) := ev_mod C (by decide)
theorem div7 (x : Int) (C : Store) : oDiv (.int x) (.int 7) C = some (.int (x / 7), C) := ev_div C (by decide) (by decide)
theorem take_0 (hC : C[i]? = some (some (bagC 0 b c cs))) (hb : 0 ≤ b) (hb2 : b < 2147483647) (hc : 0 ≤ c) (hcs : ∀ x ∈ cs, 0 ≤ x) : ∃ a' b' s2 s3, 0 ≤ a' ∧ 0 ≤ b' ∧ b' < 2147483647 ∧
    b_law_take_0 ⟨C.length, [some (.cell i), some (.int n), none, none, none, none, none]⟩ C = .nx [some (.cell i), some (.int n), s2, s3, none, none, none] (C.set i (some (bagC a' b' (c + 1) cs))) := by
  have hi : i < C.length := (List.getElem?_eq_some_iff.mp hC).1
  have hC' : C[i]? = some (some (Cell.lst [.int 0, .int b, .int c, .lst (cs.map .int)])) := hC
  have gs : ∀ x : Option Cell, (C.set i x)[i]? = some x := fun x => List.getElem?_set_self hi
  by_cases h1 : c < cs.length
  · have h1' : c.toNat < cs.length := by omega
    have hcell : 0 ≤ cs[c.toNat] := hcs _ (List.getElem_mem h1')
    by_cases h2 : 1000000000000000000 ≤ cs[c.toNat]
    · refine ⟨cs[c.toNat], (b * 48271 + cs[c.toNat] % 2147483647 + 7919 * (c + 1)) % 2147483647, some (.int cs[c.toNat]), some (.int (b * 48271 + cs[c.toNat] % 2147483647 + 7919 * (c + 1))), hcell, ?_, ?_, ?e⟩
      case e => simp [b_law_take_0, b_law_take_0t_0, b_law_take_0t_1, b_law_take_0t_2, b_law_take_0t_3, b_law_take_0t_4, b_law_take_0t_5, oIx, vS, hC', atI, ixN, gs, oLen, h1, h1', hc, auK2, auK4, cL, wr, cbC, cbL, cb, stK4, h2, mul1, mul2, mod1, bagC]
      · exact Int.emod_nonneg _ (by decide)
      · exact Int.emod_lt_of_pos _ (by decide)
    · refine ⟨0, (b * 48271 + cs[c.toNat] % 2147483647 + 7919 * (c + 1)) % 2147483647, some (.int cs[c.toNat]), some (.int (b * 48271 + cs[c.toNat] % 2147483647 + 7919 * (c + 1))), by decide, ?_, ?_, ?e⟩
      case e => simp [b_law_take_0, b_law_take_0t_0, b_law_take_0t_1, b_law_take_0t_2, b_law_take_0t_3, b_law_take_0t_4, b_law_take_0t_5, oIx, vS, hC', atI, ixN, gs, oLen, h1, h1', hc, auK2, auK4, cL, wr, cbC, cbL, cb, stK4, h2, mul1, mul2, mod1, bagC]
      · exact Int.emod_nonneg _ (by decide)
      · exact Int.emod_lt_of_pos _ (by decide)
  · refine ⟨0, (b * 48271 + 0 % 2147483647 + 7919 * (c + 1)) % 2147483647, some (.int 0), some (.int (b * 48271 + 0 % 2147483647 + 7919 * (c + 1))), by decide, ?_, ?_, ?e⟩
    case e => simp [b_law_take_0, b_law_take_0t_0, b_law_take_0t_1, b_law_take_0t_2, b_law_take_0t_3, b_law_take_0t_4, b_law_take_0t_5, oIx, vS, hC', atI, ixN, gs, oLen, h1, hc, auK2, auK4, cL, wr, cbC, cbL, cb, stK4, mul1, mul2, mod1, bagC]
    · exact Int.emod_nonneg _ (by decide)
    · exact Int.emod_lt_of_pos _ (by decide)
theorem take_1 (hC : C[i]? = some (some (bagC a b c cs))) (ha : 0 < a) (hn : 0 < n) (hn2 : n < 4611686018427387904) {s2 s3 : Option D} :
    b_law_take_1 ⟨C.length, [some (.cell i), some (.int n), s2, s3, none, none, none]⟩ C = .rt (.int (a % n)) (C.set i (some (bagC (a / n) b c cs))) := by
  have hC' : C[i]? = some (some (Cell.lst [.int a, .int b, .int c, .lst (cs.map .int)])) := hC
  simp [b_law_take_1, b_law_take_1t_0, b_law_take_1t_1, b_law_take_1t_2, oIx, vS, hC', atI, ixN, ha, ev_mod C hn, ev_div C hn hn2, stK4, cL, wr, cbC, cbL, cb, bagC]
theorem take_1n (hC : C[i]? = some (some (bagC 0 b c cs))) {s2 s3 : Option D} :
    b_law_take_1 ⟨C.length, [some (.cell i), some (.int n), s2, s3, none, none, none]⟩ C = .nx [some (.cell i), some (.int n), s2, s3, none, none, none] C := by
  have hC' : C[i]? = some (some (Cell.lst [.int 0, .int b, .int c, .lst (cs.map .int)])) := hC
  simp [b_law_take_1, oIx, vS, hC', atI, ixN]
theorem mulB {x y : Int} (h1 : 0 ≤ x) (h2 : x < 1000000007) (C : Store) : oMul (.int x) (.int y) C = some (.int (x * y), C) := ev_mul C (by
  have e1 : decide (-(2 ^ 64) < x) = true := decide_eq_true (by omega)
  have e2 : decide (x < 2 ^ 64) = true := decide_eq_true (by omega)
  simp only [cMul, e1, e2, Bool.and_self, Bool.true_or])
theorem take_2 (hC : C[i]? = some (some (bagC a b c cs))) (hb : 0 ≤ b) (hn : 0 < n) {s2 s3 : Option D} : ∃ r, 0 ≤ r ∧ r < n ∧
    sSeq b_law_take_2 (sSeq b_law_take_3 b_law_take_4) ⟨C.length, [some (.cell i), some (.int n), s2, s3, none, none, none]⟩ C = .rt (.int r) C := by
  have hC' : C[i]? = some (some (Cell.lst [.int a, .int b, .int c, .lst (cs.map .int)])) := hC
  have e0 : 0 ≤ (b + 1) * 39373 % 1000000007 := Int.emod_nonneg _ (by decide)
  have e1 : (b + 1) * 39373 % 1000000007 < 1000000007 := Int.emod_lt_of_pos _ (by decide)
  refine ⟨((b + 1) * 39373 % 1000000007 * ((b + 1) * 39373 % 1000000007) % 998244353 * 30011 % 998244353 / 7) % n, Int.emod_nonneg _ (by omega), Int.emod_lt_of_pos _ hn, ?_⟩
  simp [b_law_take_2, b_law_take_3, b_law_take_4, oIx, vS, hC', atI, ixN, mul3, mod2, mulB e0 e1, mod3, mul4, div7, ev_mod C hn]
/-- a bag in the store -/
def Bag (i : Nat) (cs : List Int) (C : Store) : Prop := ∃ a b c, C[i]? = some (some (bagC a b c cs)) ∧ 0 ≤ a ∧ 0 ≤ b ∧ b < 2147483647 ∧ 0 ≤ c
theorem take_ok (hB : Bag i cs C) (hcs : ∀ x ∈ cs, 0 ≤ x) (hn : 0 < n) (hn2 : n < 4611686018427387904) : ∃ r x, m_law_take [.cell i, .int n] C = .ok (.int r) (C.set i (some x)) ∧ 0 ≤ r ∧ r < n ∧ Bag i cs (C.set i (some x)) := by
  obtain ⟨a, b, c, hC, ha, hb, hb2, hc⟩ := hB
  have hi : i < C.length := (List.getElem?_eq_some_iff.mp hC).1
  have gs : ∀ x : Option Cell, (C.set i x)[i]? = some x := fun x => List.getElem?_set_self hi
  have tk : ∀ x : Option Cell, (C.set i x).take C.length = C.set i x := fun x => List.take_of_length_le (by simp)
  have hC' : C[i]? = some (some (Cell.lst [.int a, .int b, .int c, .lst (cs.map .int)])) := hC
  have ld : ∀ x : Option Cell, (C.set i x).length = C.length := fun x => by simp
  by_cases h0 : a = 0
  · subst h0
    obtain ⟨a', b', s2, s3, h1, h2, h3, e⟩ := take_0 (n := n) hC hb hb2 hc hcs
    by_cases h4 : a' = 0
    · subst h4
      obtain ⟨r, r1, r2, e2⟩ := take_2 (n := n) (s2 := s2) (s3 := s3) (gs (some (bagC 0 b' (c + 1) cs))) h2 hn
      have e1 := take_1n (n := n) (s2 := s2) (s3 := s3) (gs (some (bagC 0 b' (c + 1) cs)))
      rw [ld] at e1 e2
      refine ⟨r, _, ?_, r1, r2, 0, b', c + 1, gs _, by decide, h2, h3, by omega⟩
      rw [e_law_take, b_law_take, ev_seq, e, seqK_nx, ev_seq, e1, seqK_nx, e2]
      simp [tk]
    · have e1 := take_1 (n := n) (s2 := s2) (s3 := s3) (gs (some (bagC a' b' (c + 1) cs))) (by omega) hn hn2
      rw [ld] at e1
      refine ⟨a' % n, bagC (a' / n) b' (c + 1) cs, ?_, Int.emod_nonneg _ (by omega), Int.emod_lt_of_pos _ hn, a' / n, b', c + 1, gs _, Int.ediv_nonneg h1 (by omega), h2, h3, by omega⟩
      rw [e_law_take, b_law_take, ev_seq, e, seqK_nx, ev_seq, e1]
      simp [tk]
  · have e1 := take_1 (n := n) (s2 := none) (s3 := none) hC (by omega) hn hn2
    refine ⟨a % n, bagC (a / n) b c cs, ?_, Int.emod_nonneg _ (by omega), Int.emod_lt_of_pos _ hn, a / n, b, c, gs _, Int.ediv_nonneg ha (by omega), hb, hb2, hc⟩
    have e : b_law_take_0 ⟨C.length, [some (.cell i), some (.int n), none, none, none, none, none]⟩ C = .nx [some (.cell i), some (.int n), none, none, none, none, none] C := by
      simp [b_law_take_0, oIx, vS, hC', atI, ixN, h0]
    rw [e_law_take, b_law_take, ev_seq, e, seqK_nx, ev_seq, e1]
    simp [tk]
end
end CL
set_option maxHeartbeats 4000000
/-! E2: loops, comprehensions, dicts worked out. -/
namespace CT
open PySem L2
@[simp] theorem tgt_nm (i : Nat) (d : D) (sl : List (Option D)) : (Tgt.nm i).M d sl = some (sl.set i (some d)) := rfl
@[simp] theorem tgt_tp (is : List Nat) (ds : List D) (sl : List (Option D)) : (Tgt.tp is).M (.tup ds) sl = setAll is ds sl := rfl
@[simp] theorem wipe0 (sl : List (Option D)) : wipeD sl [] = sl := rfl
@[simp] theorem wipe1 (sl : List (Option D)) (v : Nat) (vs : List Nat) : wipeD sl (v :: vs) = (wipeD sl vs).set v none := rfl
/-- what is walked stays: these items -/
structure PureIt (it : ItD) (xs : List D) : Prop where
  n : it.n = xs.length
  item : ∀ j C, j < xs.length → it.item j C = xs[j]?
  fin : ∀ C, it.fin C = true
theorem pure_C (xs : List D) : PureIt (itC xs) xs := ⟨rfl, fun _ _ _ => rfl, fun _ => rfl⟩
def rngI (lo : Int) (n : Nat) : List D := (List.range n).map fun i => D.int (lo + (i : Nat))
theorem pure_R (lo : Int) (n : Nat) : PureIt (itR lo n) (rngI lo n) := ⟨by simp [itR, rngI], fun j C hj => by
  have : j < n := by simpa [rngI] using hj
  simp [itR, rngI, this], fun _ => rfl⟩
theorem pure_P {it : ItD} {xs : List D} (h : PureIt it xs) : PureIt (prI it) ((List.range xs.length).zip xs |>.map fun p => D.tup [.int (p.1 : Nat), p.2]) := by
  refine ⟨by simp [prI, h.n], fun j C hj => ?_, fun C => h.fin C⟩
  have hj' : j < xs.length := by simpa using hj
  show (it.item j C).map _ = _
  rw [h.item j C hj', List.getElem?_map, List.getElem?_eq_getElem hj']
  simp [List.getElem?_zip_eq_some, hj']
/-- a loop that runs through -/
theorem loop_inv {it : ItD} {g : MG} {body : MS} {fl : Nat} (I : Nat → List (Option D) → Store → Prop)
    (step : ∀ j sl C, j < it.n → I j sl C → ∃ d sl1 sl2 C2, it.item j C = some d ∧ g d sl = some sl1 ∧ body ⟨fl, sl1⟩ C = .nx sl2 C2 ∧ I (j + 1) sl2 C2) (fin : ∀ sl C, I it.n sl C → it.fin C = true) :
    ∀ r j sl C, r + j = it.n → I j sl C → ∃ sl' C', loopN it g body fl r j sl C = .nx sl' C' ∧ I it.n sl' C'
  | 0, j, sl, C, h, i => by
    have e : j = it.n := by omega
    subst e
    exact ⟨sl, C, by unfold loopN; rw [if_pos (fin sl C i)], i⟩
  | r + 1, j, sl, C, h, i => by
    obtain ⟨d, sl1, sl2, C2, h1, h2, h3, h4⟩ := step j sl C (by omega) i
    obtain ⟨sl', C', h5, h6⟩ := loop_inv I step fin r (j + 1) sl2 C2 (by omega) h4
    refine ⟨sl', C', ?_, h6⟩
    unfold loopN
    simp only [h1, h2, h3, h5]
/-- over given items -/
theorem loop_list {it : ItD} {xs : List D} (p : PureIt it xs) {g : MG} {body : MS} {fl : Nat} (I : Nat → List (Option D) → Store → Prop)
    (step : ∀ j x sl C, xs[j]? = some x → I j sl C → ∃ sl1 sl2 C2, g x sl = some sl1 ∧ body ⟨fl, sl1⟩ C = .nx sl2 C2 ∧ I (j + 1) sl2 C2) {sl : List (Option D)} {C : Store} (i : I 0 sl C) :
    ∃ sl' C', loopN it g body fl it.n 0 sl C = .nx sl' C' ∧ I xs.length sl' C' := by
  obtain ⟨sl', C', h1, h2⟩ := loop_inv I (fun j sl C hj i => by
    have hj' : j < xs.length := by rw [← p.n]; exact hj
    obtain ⟨sl1, sl2, C2, h1, h2, h3⟩ := step j xs[j] sl C (List.getElem?_eq_getElem hj') i
    exact ⟨xs[j], sl1, sl2, C2, by rw [p.item j C hj', List.getElem?_eq_getElem hj'], h1, h2, h3⟩) (fun sl C _ => p.fin C) it.n 0 sl C (by omega) i
  exact ⟨sl', C', h1, by rw [← p.n]; exact h2⟩
/-! ### comprehensions that change nothing -/
theorem lc_go {it : ItD} {xs : List D} (p : PureIt it xs) {g : MG} {tt : MT} {te : ME} {C : Store} {sl : List (Option D)} {f : D → Bool} {h : D → D} (sz : xs.length ≤ 16777215)
    (st : ∀ x ∈ xs, ∃ sl1, g x sl = some sl1 ∧ ∀ acc, tt ⟨C.length, sl1⟩ (C ++ [some (.lst acc)]) = .ok (f x) (C ++ [some (.lst acc)]) ∧ (f x = true → te ⟨C.length, sl1⟩ (C ++ [some (.lst acc)]) = .ok (h x) (C ++ [some (.lst acc)]))) :
    ∀ r j, r + j = xs.length → lcN it g tt te C.length sl r j (C ++ [some (.lst (((xs.take j).filter f).map h))]) = .ok () (C ++ [some (.lst ((xs.filter f).map h))])
  | 0, j, e => by
    have ej : j = xs.length := by omega
    subst ej
    unfold lcN
    rw [if_pos (p.fin _), List.take_length]
  | r + 1, j, e => by
    have hj : j < xs.length := by omega
    obtain ⟨sl1, h1, h2⟩ := st xs[j] (List.getElem_mem hj)
    have ih := lc_go p sz st r (j + 1) (by omega)
    have tk : xs.take (j + 1) = xs.take j ++ [xs[j]] := (List.take_append_getElem hj).symm
    rw [tk, List.filter_append, List.map_append] at ih
    unfold lcN
    rw [p.item j _ hj, List.getElem?_eq_getElem hj]
    simp only [h1]
    obtain ⟨e1, e2⟩ := h2 (((xs.take j).filter f).map h)
    rw [e1]
    simp only [bn0_ok]
    cases hf : f xs[j] with
    | true =>
      rw [if_pos rfl, e2 hf]
      simp only [bn0_ok]
      have at_n : (C ++ [some (Cell.lst (((xs.take j).filter f).map h))])[C.length]? = some (some (.lst (((xs.take j).filter f).map h))) := by simp
      have hz : szN ((((xs.take j).filter f).map h).length + 1) = true := by
        have l1 : ((xs.take j).filter f).length ≤ (xs.take j).length := List.length_filter_le _ _
        have l2 : (xs.take j).length ≤ j := by simp; omega
        simp only [szN, List.length_map, decide_eq_true_eq]
        omega
      rw [at_n]
      simp only [hz, if_true]
      have es : (C ++ [some (Cell.lst (((xs.take j).filter f).map h))]).set C.length (some (.lst (((xs.take j).filter f).map h ++ [h xs[j]]))) = C ++ [some (.lst (((xs.take j).filter f).map h ++ [h xs[j]]))] := by simp
      rw [es]
      simpa [List.filter_cons, hf] using ih
    | false =>
      rw [if_neg (by decide)]
      simpa [List.filter_cons, hf] using ih
/-- [e for t in it if c], nothing changed: plain data -/
theorem ev_lc {mi : MI} {it : ItD} {xs : List D} (p : PureIt it xs) {g : MG} {tt : MT} {te : ME} {vs : List Nat} {F : Fr} {C : Store} (f : D → Bool) (h : D → D) (hi : mi F C = .ok it C) (sz : xs.length ≤ 16777215)
    (st : ∀ x ∈ xs, ∃ sl1, g x (wipeD F.sl vs) = some sl1 ∧ ∀ acc, tt ⟨C.length, sl1⟩ (C ++ [some (.lst acc)]) = .ok (f x) (C ++ [some (.lst acc)]) ∧ (f x = true → te ⟨C.length, sl1⟩ (C ++ [some (.lst acc)]) = .ok (h x) (C ++ [some (.lst acc)])))
    (hc : ∀ x ∈ xs, f x = true → cb C.length (h x) = true) : mLc false mi g tt te vs F C = .ok (.lst ((xs.filter f).map h)) C := by
  have e := lc_go p sz st it.n 0 (by rw [p.n]; omega)
  unfold mLc
  rw [hi]
  simp only [bnd_ok]
  simp only [List.take_zero, List.filter_nil, List.map_nil] at e
  rw [e]
  simp only [bn0_ok]
  have at_n : (C ++ [some (Cell.lst ((xs.filter f).map h))])[C.length]? = some (some (.lst ((xs.filter f).map h))) := by simp
  have hb : cbL C.length ((xs.filter f).map h) = true := by
    have : ∀ l : List D, (∀ x ∈ l, f x = true → cb C.length (h x) = true) → cbL C.length ((l.filter f).map h) = true := by
      intro l
      induction l with
      | nil => intro _; rfl
      | cons x l ih =>
        intro hl
        rw [List.filter_cons]
        split
        · rename_i hx
          show (cb C.length (h x) && cbL C.length ((l.filter f).map h)) = true
          rw [hl x (List.mem_cons_self ..) hx, ih fun y hy => hl y (List.mem_cons_of_mem _ hy)]
          rfl
        · exact ih fun y hy => hl y (List.mem_cons_of_mem _ hy)
    exact this xs hc
  unfold lcEnd
  rw [if_neg (by decide), at_n]
  simp [hb]
theorem ev_rng1 {m : ME} {F : Fr} {C : Store} {j : Int} (h : m F C = .ok (.int j) C) (hj : inR j = true) : mRng1 m F C = .ok (itR 0 j.toNat) C := by
  unfold mRng1
  rw [h]
  simp [hj]
theorem ev_rng2 {m m2 : ME} {F : Fr} {C : Store} {i j : Int} (h : m F C = .ok (.int i) C) (h2 : m2 F C = .ok (.int j) C) (hi : inR i = true) (hj : inR j = true) : mRng2 m m2 F C = .ok (itR i (j - i).toNat) C := by
  unfold mRng2
  rw [h]
  simp [h2, hi, hj]
theorem ev_seqI {m : ME} {F : Fr} {C : Store} {d : D} {it : ItD} (h : m F C = .ok d C) (hi : itS d C = some it) : mSeq m F C = .ok it C := by
  unfold mSeq
  rw [h]
  simp [hi]
theorem ev_enum {m : ME} {F : Fr} {C : Store} {d : D} {it : ItD} (h : m F C = .ok d C) (hi : itS d C = some it) : mEnum m F C = .ok (prI it) C := by
  unfold mEnum
  rw [h]
  simp [hi]
/-! ### two clauses -/
theorem lc_from {it : ItD} {xs : List D} (p : PureIt it xs) {g : MG} {tt : MT} {te : ME} {C : Store} {sl : List (Option D)} {f : D → Bool} {h : D → D} {a0 : List D} (sz : a0.length + xs.length ≤ 16777215)
    (st : ∀ x ∈ xs, ∃ sl1, g x sl = some sl1 ∧ ∀ acc, tt ⟨C.length, sl1⟩ (C ++ [some (.lst acc)]) = .ok (f x) (C ++ [some (.lst acc)]) ∧ (f x = true → te ⟨C.length, sl1⟩ (C ++ [some (.lst acc)]) = .ok (h x) (C ++ [some (.lst acc)]))) :
    ∀ r j, r + j = xs.length → lcN it g tt te C.length sl r j (C ++ [some (.lst (a0 ++ ((xs.take j).filter f).map h))]) = .ok () (C ++ [some (.lst (a0 ++ (xs.filter f).map h))])
  | 0, j, e => by
    have ej : j = xs.length := by omega
    subst ej
    unfold lcN
    rw [if_pos (p.fin _), List.take_length]
  | r + 1, j, e => by
    have hj : j < xs.length := by omega
    obtain ⟨sl1, h1, h2⟩ := st xs[j] (List.getElem_mem hj)
    have ih := lc_from p sz st r (j + 1) (by omega)
    have tk : xs.take (j + 1) = xs.take j ++ [xs[j]] := (List.take_append_getElem hj).symm
    rw [tk, List.filter_append, List.map_append] at ih
    unfold lcN
    rw [p.item j _ hj, List.getElem?_eq_getElem hj]
    simp only [h1]
    obtain ⟨e1, e2⟩ := h2 (a0 ++ ((xs.take j).filter f).map h)
    rw [e1]
    simp only [bn0_ok]
    cases hf : f xs[j] with
    | true =>
      rw [if_pos rfl, e2 hf]
      simp only [bn0_ok]
      have at_n : (C ++ [some (Cell.lst (a0 ++ ((xs.take j).filter f).map h))])[C.length]? = some (some (.lst (a0 ++ ((xs.take j).filter f).map h))) := by simp
      have hz : szN ((a0 ++ ((xs.take j).filter f).map h).length + 1) = true := by
        have l1 : ((xs.take j).filter f).length ≤ (xs.take j).length := List.length_filter_le _ _
        have l2 : (xs.take j).length ≤ j := by simp; omega
        simp only [szN, List.length_append, List.length_map, decide_eq_true_eq]
        omega
      rw [at_n]
      simp only [hz, if_true]
      have es : (C ++ [some (Cell.lst (a0 ++ ((xs.take j).filter f).map h))]).set C.length (some (.lst (a0 ++ ((xs.take j).filter f).map h ++ [h xs[j]]))) = C ++ [some (.lst (a0 ++ ((xs.take j).filter f).map h ++ [h xs[j]]))] := by simp
      rw [es]
      simpa [List.filter_cons, hf] using ih
    | false =>
      rw [if_neg (by decide)]
      simpa [List.filter_cons, hf] using ih
/-- what the two clauses make -/
def flat2 (xs : List D) (ys : D → List D) (f : D → D → Bool) (h : D → D → D) : List D := xs.flatMap fun x => ((ys x).filter (f x)).map (h x)
theorem flat2_len (xs : List D) (ys : D → List D) (f : D → D → Bool) (h : D → D → D) {m : Nat} (hy : ∀ x ∈ xs, (ys x).length ≤ m) : (flat2 xs ys f h).length ≤ xs.length * m := by
  unfold flat2
  induction xs with
  | nil => simp
  | cons x xs ih =>
    have h1 := ih fun y hy' => hy y (List.mem_cons_of_mem _ hy')
    have h2 : (((ys x).filter (f x)).map (h x)).length ≤ m := by
      rw [List.length_map]
      exact Nat.le_trans (List.length_filter_le _ _) (hy x (List.mem_cons_self ..))
    rw [List.flatMap_cons, List.length_append, List.length_cons, Nat.succ_mul]
    omega
theorem lc2_go {it : ItD} {xs : List D} (p : PureIt it xs) {g g1 : MG} {mi1 : MI} {tt1 : MT} {te : ME} {C : Store} {sl : List (Option D)} {vs1 : List Nat} {ys : D → List D} {f : D → D → Bool} {h : D → D → D} {m : Nat} (hy : ∀ x ∈ xs, (ys x).length ≤ m) (sz : xs.length * m ≤ 16000000) (sm : m ≤ 700000)
    (st : ∀ x ∈ xs, ∃ sl1, g x sl = some sl1 ∧ ∀ acc, (∃ it1, PureIt it1 (ys x) ∧ mi1 ⟨C.length, sl1⟩ (C ++ [some (.lst acc)]) = .ok it1 (C ++ [some (.lst acc)])) ∧
      ∀ y ∈ ys x, ∃ sl2, g1 y (wipeD sl1 vs1) = some sl2 ∧ ∀ acc, tt1 ⟨C.length, sl2⟩ (C ++ [some (.lst acc)]) = .ok (f x y) (C ++ [some (.lst acc)]) ∧ (f x y = true → te ⟨C.length, sl2⟩ (C ++ [some (.lst acc)]) = .ok (h x y) (C ++ [some (.lst acc)]))) :
    ∀ r j, r + j = xs.length → lc2N it g tYesM mi1 g1 tt1 te C.length sl vs1 r j (C ++ [some (.lst (flat2 (xs.take j) ys f h))]) = .ok () (C ++ [some (.lst (flat2 xs ys f h))])
  | 0, j, e => by
    have ej : j = xs.length := by omega
    subst ej
    unfold lc2N
    rw [if_pos (p.fin _), List.take_length]
  | r + 1, j, e => by
    have hj : j < xs.length := by omega
    obtain ⟨sl1, h1, h2⟩ := st xs[j] (List.getElem_mem hj)
    have ih := lc2_go p hy sz sm st r (j + 1) (by omega)
    have tk : xs.take (j + 1) = xs.take j ++ [xs[j]] := (List.take_append_getElem hj).symm
    have fl : flat2 (xs.take (j + 1)) ys f h = flat2 (xs.take j) ys f h ++ ((ys xs[j]).filter (f xs[j])).map (h xs[j]) := by
      rw [tk]
      unfold flat2
      rw [List.flatMap_append]
      simp only [List.flatMap_cons, List.flatMap_nil, List.append_nil]
    rw [fl] at ih
    unfold lc2N
    rw [p.item j _ hj, List.getElem?_eq_getElem hj]
    simp only [h1]
    obtain ⟨⟨it1, p1, em⟩, h3⟩ := h2 (flat2 (xs.take j) ys f h)
    show bn0 (R.ok true (C ++ [some (.lst (flat2 (xs.take j) ys f h))])) _ = _
    simp only [bn0_ok, if_true]
    rw [em]
    simp only [bn0_ok]
    have hl : (flat2 (xs.take j) ys f h).length ≤ j * m := by
      have := flat2_len (xs.take j) ys f h (m := m) fun x hx => hy x (List.mem_of_mem_take hx)
      have e2 : (xs.take j).length = j := by simp; omega
      rw [e2] at this
      exact this
    have hl2 : (ys xs[j]).length ≤ m := hy _ (List.getElem_mem hj)
    have hjm : j * m ≤ xs.length * m := Nat.mul_le_mul_right _ (Nat.le_of_lt hj)
    have ein := lc_from p1 (g := g1) (tt := tt1) (te := te) (C := C) (sl := wipeD sl1 vs1) (f := f xs[j]) (h := h xs[j]) (a0 := flat2 (xs.take j) ys f h) (by omega) h3 it1.n 0 (by rw [p1.n]; omega)
    simp only [List.take_zero, List.filter_nil, List.map_nil, List.append_nil] at ein
    rw [ein]
    simp only [bn0_ok]
    exact ih
theorem ev_lc2 {mi mi1 : MI} {it : ItD} {xs : List D} (p : PureIt it xs) {g g1 : MG} {tt1 : MT} {te : ME} {vs vs1 : List Nat} {F : Fr} {C : Store} (ys : D → List D) (f : D → D → Bool) (h : D → D → D) (m : Nat) (hi : mi F C = .ok it C) (hy : ∀ x ∈ xs, (ys x).length ≤ m) (sz : xs.length * m ≤ 16000000) (sm : m ≤ 700000)
    (st : ∀ x ∈ xs, ∃ sl1, g x (wipeD F.sl vs) = some sl1 ∧ ∀ acc, (∃ it1, PureIt it1 (ys x) ∧ mi1 ⟨C.length, sl1⟩ (C ++ [some (.lst acc)]) = .ok it1 (C ++ [some (.lst acc)])) ∧
      ∀ y ∈ ys x, ∃ sl2, g1 y (wipeD sl1 vs1) = some sl2 ∧ ∀ acc, tt1 ⟨C.length, sl2⟩ (C ++ [some (.lst acc)]) = .ok (f x y) (C ++ [some (.lst acc)]) ∧ (f x y = true → te ⟨C.length, sl2⟩ (C ++ [some (.lst acc)]) = .ok (h x y) (C ++ [some (.lst acc)])))
    (hc : ∀ x ∈ xs, ∀ y ∈ ys x, f x y = true → cb C.length (h x y) = true) : mLc2 false mi g tYesM mi1 g1 tt1 te vs vs1 F C = .ok (.lst (flat2 xs ys f h)) C := by
  have e := lc2_go p hy sz sm st it.n 0 (by rw [p.n]; omega)
  unfold mLc2
  rw [hi]
  simp only [bnd_ok]
  have e0 : flat2 (xs.take 0) ys f h = [] := by simp [flat2]
  rw [e0] at e
  rw [e]
  simp only [bn0_ok]
  have at_n : (C ++ [some (Cell.lst (flat2 xs ys f h))])[C.length]? = some (some (.lst (flat2 xs ys f h))) := by simp
  have all : ∀ l : List D, (∀ d ∈ l, cb C.length d = true) → cbL C.length l = true := by
    intro l
    induction l with
    | nil => intro _; rfl
    | cons d l ih =>
      intro hl
      show (cb C.length d && cbL C.length l) = true
      rw [hl d (List.mem_cons_self ..), ih fun x hx => hl x (List.mem_cons_of_mem _ hx)]
      rfl
  have hb : cbL C.length (flat2 xs ys f h) = true := by
    refine all _ fun d hd => ?_
    unfold flat2 at hd
    obtain ⟨x, hx, hd⟩ := List.mem_flatMap.mp hd
    obtain ⟨y, hy', rfl⟩ := List.mem_map.mp hd
    obtain ⟨hy1, hy2⟩ := List.mem_filter.mp hy'
    exact hc x hx y hy1 hy2
  unfold lcEnd
  rw [if_neg (by decide), at_n]
  simp [hb]
/-! ### dicts from pairs to numbers -/
abbrev Dc := List ((Int × Int) × Int)
def dcK (d : Dc) : List (List Key) := d.map fun p => [.inl p.1.1, .inl p.1.2]
def dcV (d : Dc) : List D := d.map fun p => .int p.2
def dg : Dc → Int × Int → Option Int
  | [], _ => none
  | p :: r, k => if p.1 = k then some p.2 else dg r k
def dg0 (d : Dc) (k : Int × Int) : Int := (dg d k).getD 0
def dp (d : Dc) (k : Int × Int) (n : Int) : Dc := if d.any (fun p => decide (p.1 = k)) = true then d.map fun p => if p.1 = k then (p.1, n) else p else d ++ [(k, n)]
theorem key_eq (a b : Int × Int) : ([Sum.inl a.1, Sum.inl a.2] : List Key) = [.inl b.1, .inl b.2] ↔ a = b := by
  constructor
  · intro h
    simp only [List.cons.injEq, Sum.inl.injEq, and_true] at h
    exact Prod.ext h.1 h.2
  · rintro rfl
    rfl
theorem look_dc (k : Int × Int) : ∀ d : Dc, lookT (dcK d) (dcV d) [.inl k.1, .inl k.2] = (dg d k).map .int
  | [] => rfl
  | p :: r => by
    show (if ([.inl p.1.1, .inl p.1.2] : List Key) = [.inl k.1, .inl k.2] then some (D.int p.2) else lookT (dcK r) (dcV r) [.inl k.1, .inl k.2]) = _
    unfold dg
    by_cases h : p.1 = k
    · rw [if_pos ((key_eq _ _).mpr h), if_pos h]
      rfl
    · rw [if_neg (fun e => h ((key_eq _ _).mp e)), if_neg h, look_dc k r]
theorem any_dc (k : Int × Int) (d : Dc) : ((dcK d).any fun x => decide (x = [.inl k.1, .inl k.2])) = d.any fun p => decide (p.1 = k) := by
  unfold dcK
  rw [List.any_map]
  congr 1
  funext p
  exact decide_eq_decide.mpr (key_eq _ _)
theorem set_dc (k : Int × Int) (n : Int) : ∀ d : Dc, setT (dcK d) (dcV d) [.inl k.1, .inl k.2] (.int n) = dcV (d.map fun p => if p.1 = k then (p.1, n) else p)
  | [] => rfl
  | p :: r => by
    show (if ([.inl p.1.1, .inl p.1.2] : List Key) = [.inl k.1, .inl k.2] then D.int n else D.int p.2) :: setT (dcK r) (dcV r) [.inl k.1, .inl k.2] (.int n) = _
    rw [set_dc k n r]
    by_cases h : p.1 = k
    · rw [if_pos ((key_eq _ _).mpr h)]
      simp [dcV, h]
    · rw [if_neg (fun e => h ((key_eq _ _).mp e))]
      simp [dcV, h]
theorem put_dc (d : Dc) (k : Int × Int) (n : Int) : putT (dcK d) (dcV d) [.inl k.1, .inl k.2] (.int n) = (dcK (dp d k n), dcV (dp d k n)) := by
  unfold putT dp
  rw [any_dc]
  split
  · rw [set_dc]
    congr 1
    simp only [dcK, List.map_map]
    apply List.map_congr_left
    intro p _
    simp only [Function.comp]
    split <;> rfl
  · simp [dcK, dcV]
theorem dg_none {k : Int × Int} : ∀ {d : Dc}, d.any (fun p => decide (p.1 = k)) = false → dg d k = none
  | [], _ => rfl
  | p :: r, h => by
    rw [List.any_cons, Bool.or_eq_false_iff] at h
    unfold dg
    rw [if_neg (of_decide_eq_false h.1)]
    exact dg_none h.2
theorem dg_app {k k' : Int × Int} {n : Int} : ∀ d : Dc, dg (d ++ [(k, n)]) k' = match dg d k' with
    | some x => some x
    | none => if k = k' then some n else none
  | [] => rfl
  | p :: r => by
    have e1 : dg ((p :: r) ++ [(k, n)]) k' = if p.1 = k' then some p.2 else dg (r ++ [(k, n)]) k' := rfl
    have e2 : dg (p :: r) k' = if p.1 = k' then some p.2 else dg r k' := rfl
    rw [e1, e2]
    by_cases h : p.1 = k'
    · rw [if_pos h, if_pos h]
    · rw [if_neg h, if_neg h]
      exact dg_app r
theorem dg_map {k k' : Int × Int} {n : Int} : ∀ d : Dc, dg (d.map fun p => if p.1 = k then (p.1, n) else p) k' = if k' = k then (dg d k').map fun _ => n else dg d k'
  | [] => by simp [dg]
  | p :: r => by
    show dg ((if p.1 = k then (p.1, n) else p) :: r.map fun p => if p.1 = k then (p.1, n) else p) k' = _
    by_cases h1 : p.1 = k
    · rw [if_pos h1]
      unfold dg
      by_cases h2 : p.1 = k'
      · have e : k' = k := by rw [← h2, h1]
        simp [h2, e]
      · simp only [if_neg h2]
        exact dg_map r
    · rw [if_neg h1]
      unfold dg
      by_cases h2 : p.1 = k'
      · have e : ¬ k' = k := fun e => h1 (by rw [h2, e])
        simp [h2, e]
      · simp only [if_neg h2]
        exact dg_map r
theorem dg_some_of_any {k : Int × Int} : ∀ {d : Dc}, d.any (fun p => decide (p.1 = k)) = true → ∃ x, dg d k = some x
  | [], h => by cases h
  | p :: r, h => by
    unfold dg
    by_cases e : p.1 = k
    · exact ⟨p.2, if_pos e⟩
    · rw [List.any_cons, decide_eq_false e, Bool.false_or] at h
      obtain ⟨x, hx⟩ := dg_some_of_any h
      exact ⟨x, by rw [if_neg e]; exact hx⟩
theorem dg_dp (d : Dc) (k k' : Int × Int) (n : Int) : dg (dp d k n) k' = if k' = k then some n else dg d k' := by
  unfold dp
  split
  · rename_i h
    rw [dg_map]
    by_cases e : k' = k
    · subst e
      obtain ⟨x, hx⟩ := dg_some_of_any h
      simp [hx]
    · simp [e]
  · rename_i h
    rw [dg_app]
    by_cases e : k' = k
    · subst e
      rw [dg_none (Bool.not_eq_true _ ▸ h : d.any (fun p => decide (p.1 = k')) = false)]
    · have e' : ¬ k = k' := fun z => e z.symm
      cases dg d k' <;> simp [e, e']
theorem dg0_dp (d : Dc) (k k' : Int × Int) (n : Int) : dg0 (dp d k n) k' = if k' = k then n else dg0 d k' := by
  unfold dg0
  rw [dg_dp]
  split <;> rfl
theorem mem_dp {d : Dc} {k : Int × Int} {n : Int} {p : (Int × Int) × Int} (h : p ∈ dp d k n) : p = (k, n) ∨ p ∈ d := by
  unfold dp at h
  split at h
  · obtain ⟨q, hq, e⟩ := List.mem_map.mp h
    by_cases hk : q.1 = k
    · rw [if_pos hk] at e
      rw [← e, hk]
      exact .inl rfl
    · rw [if_neg hk] at e
      rw [← e]
      exact .inr hq
  · rcases List.mem_append.mp h with h | h
    · exact .inr h
    · exact .inl (by simpa using h)
theorem dp_len (d : Dc) (k : Int × Int) (n : Int) : (dp d k n).length ≤ d.length + 1 := by
  unfold dp
  split
  · simp
  · simp
theorem dp_keys (d : Dc) (k : Int × Int) (n : Int) (h : (d.map (·.1)).Nodup) : ((dp d k n).map (·.1)).Nodup := by
  unfold dp
  split
  · have : (d.map fun p => if p.1 = k then (p.1, n) else p).map (·.1) = d.map (·.1) := by
      rw [List.map_map]
      apply List.map_congr_left
      intro p _
      simp only [Function.comp]
      split <;> rfl
    rw [this]
    exact h
  · rename_i hn
    rw [List.map_append, List.nodup_append]
    refine ⟨h, by simp, fun a ha b hb => ?_⟩
    simp only [List.map_cons, List.map_nil, List.mem_singleton] at hb
    subst hb
    rintro rfl
    apply hn
    rw [List.any_eq_true]
    obtain ⟨p, hp, e⟩ := List.mem_map.mp ha
    exact ⟨p, hp, decide_eq_true e⟩
theorem dg_mem {k : Int × Int} {n : Int} : ∀ {d : Dc}, dg d k = some n → (k, n) ∈ d
  | [], h => by cases h
  | p :: r, h => by
    unfold dg at h
    split at h
    · rename_i e
      cases h
      rw [← e]
      exact List.mem_cons_self ..
    · exact List.mem_cons_of_mem _ (dg_mem h)
theorem mem_dg {k : Int × Int} {n : Int} : ∀ {d : Dc}, (d.map (·.1)).Nodup → (k, n) ∈ d → dg d k = some n
  | p :: r, h, hm => by
    rw [List.map_cons, List.nodup_cons] at h
    unfold dg
    rcases List.mem_cons.mp hm with e | hm
    · rw [← e, if_pos rfl]
    · rw [if_neg fun e => h.1 (by rw [e]; exact List.mem_map.mpr ⟨_, hm, rfl⟩)]
      exact mem_dg h.2 hm
end CT
set_option maxHeartbeats 4000000
/-! E3: walks over cells; own operators worked out. -/
namespace CT
open PySem L2
/-- what is walked stays while P holds: these items -/
structure ItOn (P : Store → Prop) (it : ItD) (xs : List D) : Prop where
  n : it.n = xs.length
  item : ∀ j C, P C → j < xs.length → it.item j C = xs[j]?
  fin : ∀ C, P C → it.fin C = true
theorem PureIt.on {it : ItD} {xs : List D} (h : PureIt it xs) (P : Store → Prop) : ItOn P it xs := ⟨h.n, fun j C _ => h.item j C, fun C _ => h.fin C⟩
theorem ItOn.imp {P P' : Store → Prop} {it : ItD} {xs : List D} (h : ItOn P it xs) (q : ∀ C, P' C → P C) : ItOn P' it xs := ⟨h.n, fun j C p => h.item j C (q C p), fun C p => h.fin C (q C p)⟩
theorem ItOn.pairs {P : Store → Prop} {it : ItD} {xs : List D} (h : ItOn P it xs) : ItOn P (prI it) ((List.range xs.length).zip xs |>.map fun p => D.tup [.int (p.1 : Nat), p.2]) := by
  refine ⟨by simp [prI, h.n], fun j C hp hj => ?_, fun C hp => h.fin C hp⟩
  have hj' : j < xs.length := by simpa using hj
  show (it.item j C).map _ = _
  rw [h.item j C hp hj', List.getElem?_map, List.getElem?_eq_getElem hj']
  simp [List.getElem?_zip_eq_some, hj']
theorem loop_on {P : Store → Prop} {it : ItD} {xs : List D} (p : ItOn P it xs) {g : MG} {body : MS} {fl : Nat} (I : Nat → List (Option D) → Store → Prop) (hP : ∀ j sl C, I j sl C → P C)
    (step : ∀ j x sl C, xs[j]? = some x → I j sl C → ∃ sl1 sl2 C2, g x sl = some sl1 ∧ body ⟨fl, sl1⟩ C = .nx sl2 C2 ∧ I (j + 1) sl2 C2) {sl : List (Option D)} {C : Store} (i : I 0 sl C) :
    ∃ sl' C', loopN it g body fl it.n 0 sl C = .nx sl' C' ∧ I xs.length sl' C' := by
  obtain ⟨sl', C', h1, h2⟩ := loop_inv I (fun j sl C hj i => by
    have hj' : j < xs.length := by rw [← p.n]; exact hj
    obtain ⟨sl1, sl2, C2, h1, h2, h3⟩ := step j xs[j] sl C (List.getElem?_eq_getElem hj') i
    exact ⟨xs[j], sl1, sl2, C2, by rw [p.item j C (hP _ _ _ i) hj', List.getElem?_eq_getElem hj'], h1, h2, h3⟩) (fun sl C i => p.fin C (hP _ _ _ i)) it.n 0 sl C (by omega) i
  exact ⟨sl', C', h1, by rw [← p.n]; exact h2⟩
/-- d is walked as xs wherever the store begins by C -/
def SeqIn (d : D) (xs : List D) (C : Store) : Prop := ∃ it, (∀ Y, itS d (C ++ Y) = some it) ∧ ItOn (fun S => ∃ Y, S = C ++ Y) it xs
theorem SeqIn.app {d : D} {xs : List D} {C : Store} (h : SeqIn d xs C) (Z : Store) : SeqIn d xs (C ++ Z) := by
  obtain ⟨it, h1, h2⟩ := h
  exact ⟨it, fun Y => by rw [List.append_assoc]; exact h1 _, h2.imp fun S ⟨Y, e⟩ => ⟨Z ++ Y, by rw [e, List.append_assoc]⟩⟩
theorem SeqIn.at0 {d : D} {xs : List D} {C : Store} (h : SeqIn d xs C) : ∃ it, itS d C = some it ∧ ItOn (fun S => ∃ Y, S = C ++ Y) it xs := by
  obtain ⟨it, h1, h2⟩ := h
  have := h1 []
  rw [List.append_nil] at this
  exact ⟨it, this, h2⟩
theorem seq_of {d : D} {xs : List D} (h : ∀ C, itS d C = some (itC xs)) (C : Store) : SeqIn d xs C := ⟨itC xs, fun Y => h _, (pure_C xs).on _⟩
theorem seq_cell {i : Nat} {xs : List D} {C : Store} (h : C[i]? = some (some (.lst xs))) : SeqIn (.cell i) xs C := by
  have hi : i < C.length := (List.getElem?_eq_some_iff.mp h).1
  have at_ : ∀ Y : Store, (C ++ Y)[i]? = some (some (.lst xs)) := fun Y => by rw [List.getElem?_append_left hi]; exact h
  refine ⟨itV i xs.length, fun Y => ?_, rfl, ?_, ?_⟩
  · show (match (C ++ Y)[i]? with
      | some (some (.lst ys)) => some (itV i ys.length)
      | _ => none) = _
    rw [at_]
  · rintro j S ⟨Y, rfl⟩ hj
    simp [itV, at_]
  · rintro S ⟨Y, rfl⟩
    simp [itV, at_]
/-! ### own operators -/
@[simp] theorem ev_revT {m : ME} {F : Fr} {C C1 : Store} {xs : List D} (h : m F C = .ok (.tup xs) C1) : mRevT m F C = .ok (.tup xs.reverse) C1 := by
  unfold mRevT
  rw [h]
  rfl
end CT
set_option maxHeartbeats 4000000
/-! M2: sums of ties, grids, webs. -/
namespace CL
open PySem L2 CT
abbrev T3 := Int × Int × Int
def triD (t : T3) : D := .tup [.int t.1, .int t.2.1, .int t.2.2]
def pr (t : T3) : Int × Int := (min t.1 t.2.1, max t.1 t.2.1)
def addT (d : Dc) (t : T3) : Dc := dp d (pr t) (dg0 d (pr t) + t.2.2)
def sums (L : List T3) : Dc := L.foldl addT []
def IsSeq (d : D) (xs : List D) : Prop := ∀ C, itS d C = some (itC xs)
theorem seq_lst (xs : List D) : IsSeq (.lst xs) xs := fun _ => rfl
theorem seq_tup (xs : List D) : IsSeq (.tup xs) xs := fun _ => rfl
theorem seq_kt (xs : List D) : IsSeq (.kt xs) xs := fun _ => rfl
/-! ### d[k] = v -/
def puK4 (F : Fr) (v o x : D) (C3 : Store) : RS := match x, cD o C3 with
  | .tup ds, some (i, ks, vs) => match keyL ds with
    | some key => if szN (ks.length + 1) = true then match wr F.fl i (.dT (putT ks vs key v).1 (putT ks vs key v).2) C3 with
      | some C4 => .nx F.sl C4
      | none => .stuck
      else .stuck
    | none => .stuck
  | _, _ => .stuck
def puK3 (F : Fr) (v o : D) (m : R D) : RS := bndS F.sl m fun x C3 => puK4 F v o x C3
@[simp] theorem puK3_ok (F : Fr) (v o x : D) (C : Store) : puK3 F v o (.ok x C) = puK4 F v o x C := rfl
def puK2 (mi : ME) (F : Fr) (v : D) (m : R D) : RS := bndS F.sl m fun o C2 => puK3 F v o (mi F C2)
@[simp] theorem puK2_ok (mi : ME) (F : Fr) (v o : D) (C : Store) : puK2 mi F v (.ok o C) = puK3 F v o (mi F C) := rfl
def puK (mo mi : ME) (F : Fr) (m : R D) : RS := bndS F.sl m fun v C1 => puK2 mi F v (mo F C1)
@[simp] theorem puK_ok (mo mi : ME) (F : Fr) (v : D) (C : Store) : puK mo mi F (.ok v C) = puK2 mi F v (mo F C) := rfl
@[simp] theorem ev_put (me mo mi : ME) (F : Fr) (C : Store) : sPut me mo mi F C = puK mo mi F (me F C) := rfl
@[simp] theorem keyL2 (a b : Int) : keyL [.int a, .int b] = some [.inl a, .inl b] := rfl
theorem put_at {F : Fr} {C : Store} {i : Nat} {d : Dc} {a b v : Int} (hC : C[i]? = some (some (.dT (dcK d) (dcV d)))) (hz : d.length < 16777216) (hf : F.fl ≤ i ∨ True) :
    puK4 F (.int v) (.cell i) (.tup [.int a, .int b]) C = .nx F.sl (C.set i (some (.dT (dcK (dp d (a, b) v)) (dcV (dp d (a, b) v))))) := by
  have e := put_dc d (a, b) v
  have z : szN ((dcK d).length + 1) = true := by simp [szN, dcK]; omega
  have c0 : cbC 0 (.dT (dcK (dp d (a, b) v)) (dcV (dp d (a, b) v))) = true := by
    show cbL 0 (dcV (dp d (a, b) v)) = true
    unfold dcV
    have := cbL_ints 0 ((dp d (a, b) v).map (·.2))
    rw [List.map_map] at this
    exact this
  have w : wr F.fl i (.dT (dcK (dp d (a, b) v)) (dcV (dp d (a, b) v))) C = some (C.set i (some (.dT (dcK (dp d (a, b) v)) (dcV (dp d (a, b) v))))) := by
    unfold wr
    rw [if_neg (fun h => by rw [c0] at h; cases h.2)]
  simp only [puK4, cD, hC, keyL2, z, if_true]
  simp only at e
  rw [e]
  simp only [w]
theorem get_at {x : D} {C : Store} {d : Dc} {a b : Int} (h : vD x C = some (dcK d, dcV d)) : oDGet x (.tup [.int a, .int b]) (.int 0) C = some (.int (dg0 d (a, b)), C) := by
  have e := look_dc (a, b) d
  simp only at e
  simp only [oDGet, h, keyL2, Option.bind_some, Option.map_some]
  rw [e]
  unfold dg0
  cases dg d (a, b) <;> rfl
theorem sums_take (L : List T3) (j : Nat) (t : T3) (h : L[j]? = some t) : sums (L.take (j + 1)) = addT (sums (L.take j)) t := by
  have hj : j < L.length := (List.getElem?_eq_some_iff.mp h).1
  have e : L.take (j + 1) = L.take j ++ [t] := by
    rw [← (List.getElem?_eq_some_iff.mp h).2]
    exact (List.take_append_getElem hj).symm
  unfold sums
  rw [e, List.foldl_append]
  rfl
theorem sums_len : ∀ (L : List T3) (d : Dc), (L.foldl addT d).length ≤ d.length + L.length
  | [], d => by simp
  | t :: L, d => by
    have h1 := sums_len L (addT d t)
    have h2 : (addT d t).length ≤ d.length + 1 := dp_len _ _ _
    simp only [List.foldl_cons, List.length_cons]
    omega
theorem summed_ok {d : D} {L : List T3} {C : Store} (hd : SeqIn d (L.map triD) C) (hl : L.length ≤ 1000000) : m_summed [d] C = .ok (.dT (dcK (sums L)) (dcV (sums L))) C := by
  obtain ⟨it, hit, pit⟩ := hd
  rw [e_summed, b_summed, ev_seq]
  have e0 : b_summed_0 ⟨C.length, [some d, none, none, none, none, none]⟩ C = .nx [some d, some (.cell C.length), none, none, none, none] (C ++ [some (.dT [] [])]) := by
    simp [b_summed_0, mDNew, mkD]
  rw [e0, seqK_nx, ev_seq, b_summed_1, ev_for]
  rw [ev_seqI (d := d) (it := it) (by simp) (hit _), forK_ok]
  obtain ⟨sl', C', h1, h2⟩ := loop_on pit (g := (Tgt.tp [2, 3, 4]).M) (body := sSeq b_summed_1b_0 b_summed_1b_1) (fl := C.length)
    (fun j sl St => St = C ++ [some (.dT (dcK (sums (L.take j))) (dcV (sums (L.take j))))] ∧ ∃ s2 s3 s4 s5, sl = [some d, some (.cell C.length), s2, s3, s4, s5])
    (fun j sl St hi => ⟨_, hi.1⟩)
    (fun j x sl St hx hi => by
      obtain ⟨rfl, s2, s3, s4, s5, rfl⟩ := hi
      rw [List.getElem?_map, Option.map_eq_some_iff] at hx
      obtain ⟨t, ht, rfl⟩ := hx
      have at_n : ∀ c : Option Cell, (C ++ [c])[C.length]? = some c := fun c => by simp
      have hv : vD (.cell C.length) (C ++ [some (.dT (dcK (sums (L.take j))) (dcV (sums (L.take j))))]) = some (dcK (sums (L.take j)), dcV (sums (L.take j))) := by
        simp only [vD, at_n]
      have hz : (sums (L.take j)).length < 16777216 := by
        have h1 := sums_len (L.take j) []
        have h2 : (L.take j).length ≤ L.length := by simp; omega
        have h3 : (sums (L.take j)).length ≤ ([] : Dc).length + (L.take j).length := h1
        simp only [List.length_nil] at h3
        omega
      refine ⟨[some d, some (.cell C.length), some (.int t.1), some (.int t.2.1), some (.int t.2.2), s5], [some d, some (.cell C.length), some (.int t.1), some (.int t.2.1), some (.int t.2.2), some (.tup [.int (pr t).1, .int (pr t).2])], C ++ [some (.dT (dcK (addT (sums (L.take j)) t)) (dcV (addT (sums (L.take j)) t)))], by simp [triD], ?_, ?_, _, _, _, _, rfl⟩
      · rw [ev_seq]
        have eb : b_summed_1b_0 ⟨C.length, [some d, some (.cell C.length), some (.int t.1), some (.int t.2.1), some (.int t.2.2), s5]⟩ (C ++ [some (.dT (dcK (sums (L.take j))) (dcV (sums (L.take j))))]) =
            .nx [some d, some (.cell C.length), some (.int t.1), some (.int t.2.1), some (.int t.2.2), some (.tup [.int (pr t).1, .int (pr t).2])] (C ++ [some (.dT (dcK (sums (L.take j))) (dcV (sums (L.take j))))]) := by
          simp [b_summed_1b_0, oTup, szN, pr]
        rw [eb, seqK_nx]
        have hs : (vD (.cell C.length) (C ++ [some (.dT (dcK (sums (L.take j))) (dcV (sums (L.take j))))])).isSome = true := by rw [hv]; rfl
        simp only [b_summed_1b_1, ev_put, ev_op, ev_dget, ev_var, List.getElem?_cons_succ, List.getElem?_cons_zero, getV_some, getK_ok _ _ _ hs, getK2_ok, ev_c, getK3_ok, get_at hv, ev_ofO_some, opK_ok, opK2_ok, ev_add, puK_ok, puK2_ok, puK3_ok]
        rw [put_at (at_n _) hz (.inr trivial)]
        simp [addT]
      · rw [sums_take L j t ht])
    (sl := [some d, some (.cell C.length), none, none, none, none]) (C := C ++ [some (.dT [] [])]) ⟨rfl, _, _, _, _, rfl⟩
  rw [h1, seqK_nx]
  obtain ⟨rfl, s2, s3, s4, s5, rfl⟩ := h2
  have hL : L.take (L.map triD).length = L := by rw [List.length_map, List.take_length]
  rw [hL]
  have at_n : ∀ c : Option Cell, (C ++ [c])[C.length]? = some c := fun c => by simp
  have cv : cbL C.length (dcV (sums L)) = true := by
    unfold dcV
    have := cbL_ints C.length ((sums L).map (·.2))
    rw [List.map_map] at this
    exact this
  simp [b_summed_2, fin, fz, cb, cv]
end CL
set_option maxHeartbeats 4000000
/-! M3: a web is made. -/
namespace CL
open PySem L2 CT
@[simp] theorem getK_dT (b c : ME) (F : Fr) (ks : List (List Key)) (vs : List D) (C : Store) : getK b c F (.ok (.dT ks vs) C) = getK2 c F (.dT ks vs) (b F C) := rfl
def ValidT (N : Nat) (t : T3) : Prop := 0 ≤ t.1 ∧ t.1 < N ∧ 0 ≤ t.2.1 ∧ t.2.1 < N ∧ t.1 ≠ t.2.1 ∧ 0 ≤ t.2.2 ∧ t.2.2 ≤ 1000000000
theorem is_tie_true {N : Nat} {t : T3} (h : ValidT N t) (C : Store) : m_is_tie [.int N, triD t] C = .ok (.bl true) C := by
  obtain ⟨h1, h2, h3, h4, h5, h6, h7⟩ := h
  have a1 : t.1 ≤ (N : Int) - 1 := by omega
  have a2 : t.2.1 ≤ (N : Int) - 1 := by omega
  simp [e_is_tie, b_is_tie, b_is_tie_0, b_is_tie_1, b_is_tie_2, b_is_tie_3, isi, tyD, isaT, oLen, vS, triD, is_count_int, h1, h3, h5, h6, h7, a1, a2]
def rowsOf (N : Nat) (f : Int × Int → Int) : List (List Int) := (List.range N).map fun u : Nat => (List.range N).map fun v : Nat => f (min (u : Int) (v : Int), max (u : Int) (v : Int))
def gridD (G : List (List Int)) : D := .lst (G.map fun r => .lst (r.map .int))
def asI : D → Int
  | .int i => i
  | _ => 0
theorem filter_yes {α : Type} (l : List α) : l.filter (fun _ => true) = l := List.filter_eq_self.mpr fun _ _ => rfl
theorem rng_all (N : Nat) (h : D → D) : ((rngI 0 N).filter fun _ => true).map h = (List.range N).map fun u => h (.int (u : Nat)) := by
  rw [filter_yes, rngI, List.map_map]
  apply List.map_congr_left
  intro a _
  simp
theorem mem_rng {lo : Int} {N : Nat} {x : D} (h : x ∈ rngI lo N) : ∃ u : Nat, u < N ∧ x = .int (lo + u) := by
  unfold rngI at h
  obtain ⟨u, hu, rfl⟩ := List.mem_map.mp h
  exact ⟨u, List.mem_range.mp hu, rfl⟩
theorem inR_nat {N : Nat} (h : N ≤ 1000) : inR (N : Int) = true := by
  simp only [inR, Bool.and_eq_true, decide_eq_true_eq]
  omega
theorem cbL_all {n : Nat} : ∀ {l : List D}, (∀ d ∈ l, cb n d = true) → cbL n l = true
  | [], _ => rfl
  | d :: l, h => by
    show (cb n d && cbL n l) = true
    rw [h d (List.mem_cons_self ..), cbL_all fun x hx => h x (List.mem_cons_of_mem _ hx)]
    rfl
theorem grid_of_ok {d : D} {L : List T3} {C : Store} {N : Nat} (hN : N ≤ 60) (hd : SeqIn d (L.map triD) C) (hl : L.length ≤ 1000000) : m_grid_of [.int N, d] C = .ok (gridD (rowsOf N (dg0 (sums L)))) C := by
  rw [e_grid_of, b_grid_of, ev_seq]
  have e0 : b_grid_of_0 ⟨C.length, [some (.int N), some d, none, none, none]⟩ C = .nx [some (.int N), some d, some (.dT (dcK (sums L)) (dcV (sums L))), none, none] C := by
    simp [b_grid_of_0, summed_ok hd hl]
  rw [e0, seqK_nx]
  have inner : ∀ (u : Int) (C' : Store), mLc false (mRng1 (mVar 0)) (Tgt.nm 4).M tYesM (mDGet (mVar 2) (mAp oTup (mCons (mAp oMin2 (mCons (mVar 3) (mCons (mVar 4) mNil))) (mCons (mAp oMax2 (mCons (mVar 3) (mCons (mVar 4) mNil))) mNil))) (mC (.int 0))) [4]
      ⟨C.length, [some (.int N), some d, some (.dT (dcK (sums L)) (dcV (sums L))), some (.int u), none]⟩ C' = .ok (.lst (((List.range N).map fun v : Nat => dg0 (sums L) (min u (v : Int), max u (v : Int))).map .int)) C' := fun u C' => by
    rw [ev_lc (pure_R 0 N) (fun _ => true) (fun x => .int (dg0 (sums L) (min u (asI x), max u (asI x)))) (by rw [ev_rng1 (j := (N : Int)) (by simp) (inR_nat (by omega))]; simp) (by simp [rngI]; omega)
      (fun x hx => by
        obtain ⟨v, hv, rfl⟩ := mem_rng hx
        refine ⟨[some (.int N), some d, some (.dT (dcK (sums L)) (dcV (sums L))), some (.int u), some (.int (0 + (v : Int)))], by simp, fun acc => ⟨rfl, fun _ => ?_⟩⟩
        simp [oTup, szN, asI, get_at (x := .dT (dcK (sums L)) (dcV (sums L))) rfl])
      (fun x hx _ => rfl)]
    rw [rng_all, List.map_map]
    rfl
  have e1 : mLc false (mRng1 (mVar 0)) (Tgt.nm 3).M tYesM (mLc false (mRng1 (mVar 0)) (Tgt.nm 4).M tYesM (mDGet (mVar 2) (mAp oTup (mCons (mAp oMin2 (mCons (mVar 3) (mCons (mVar 4) mNil))) (mCons (mAp oMax2 (mCons (mVar 3) (mCons (mVar 4) mNil))) mNil))) (mC (.int 0))) [4]) [3]
      ⟨C.length, [some (.int N), some d, some (.dT (dcK (sums L)) (dcV (sums L))), none, none]⟩ C = .ok (gridD (rowsOf N (dg0 (sums L)))) C := by
    rw [ev_lc (pure_R 0 N) (fun _ => true) (fun x => .lst (((List.range N).map fun v : Nat => dg0 (sums L) (min (asI x) (v : Int), max (asI x) (v : Int))).map .int)) (by rw [ev_rng1 (j := (N : Int)) (by simp) (inR_nat (by omega))]; simp) (by simp [rngI]; omega)
      (fun x hx => by
        obtain ⟨u, hu, rfl⟩ := mem_rng hx
        refine ⟨[some (.int N), some d, some (.dT (dcK (sums L)) (dcV (sums L))), some (.int (0 + (u : Int))), none], by simp, fun acc => ⟨rfl, fun _ => ?_⟩⟩
        exact inner (0 + (u : Int)) _)
      (fun x hx _ => cbL_ints _ _)]
    rw [rng_all]
    simp [gridD, rowsOf, asI, List.map_map]
  have cg : cb C.length (gridD (rowsOf N (dg0 (sums L)))) = true := by
    show cbL C.length _ = true
    refine cbL_all fun d hd => ?_
    obtain ⟨r, hr, rfl⟩ := List.mem_map.mp hd
    exact cbL_ints _ _
  rw [b_grid_of_1, ev_sret, e1, retK_ok, finS_rt]
  show (if cb C.length (gridD (rowsOf N (dg0 (sums L)))) = true then R.ok (gridD (rowsOf N (dg0 (sums L)))) (C.take C.length) else .stuck) = _
  rw [if_pos cg, List.take_length]
end CL
set_option maxHeartbeats 4000000
/-! M4: Web(size, ties). -/
namespace CL
open PySem L2 CT
def pairsL (N : Nat) : List (Int × Int) := (List.range N).flatMap fun u : Nat => (List.range (N - (u + 1))).map fun w : Nat => ((u : Int), ((u + 1 + w : Nat) : Int))
def tiesL (N : Nat) (f : Int × Int → Int) : List T3 := ((pairsL N).filter fun p => decide (0 < f p)).map fun p => (p.1, p.2, f p)
def webD (N : Nat) (f : Int × Int → Int) : D := .obj 0 [.int N, gridD (rowsOf N f), .tup ((tiesL N f).map triD)]
def pD (p : Int × Int) : D := .tup [.int p.1, .int p.2]
theorem mem_pairs {N : Nat} {p : Int × Int} : p ∈ pairsL N ↔ ∃ u v : Nat, u < v ∧ v < N ∧ p = ((u : Int), (v : Int)) := by
  unfold pairsL
  rw [List.mem_flatMap]
  constructor
  · rintro ⟨u, hu, hp⟩
    obtain ⟨w, hw, rfl⟩ := List.mem_map.mp hp
    have := List.mem_range.mp hu
    have := List.mem_range.mp hw
    exact ⟨u, u + 1 + w, by omega, by omega, rfl⟩
  · rintro ⟨u, v, h1, h2, rfl⟩
    refine ⟨u, List.mem_range.mpr (by omega), List.mem_map.mpr ⟨v - (u + 1), List.mem_range.mpr (by omega), ?_⟩⟩
    have e : u + 1 + (v - (u + 1)) = v := by omega
    rw [e]
theorem grid_ix {N : Nat} {f : Int × Int → Int} {u : Nat} (hu : u < N) (C : Store) : oIx (gridD (rowsOf N f)) (.int u) C = some (.lst (((List.range N).map fun v : Nat => f (min (u : Int) (v : Int), max (u : Int) (v : Int))).map .int), C) := by
  simp [oIx, vS, gridD, rowsOf, atI, ixN, hu]
theorem row_ix {N : Nat} {g : Nat → Int} {v : Nat} (hv : v < N) (C : Store) : oIx (.lst (((List.range N).map g).map .int)) (.int v) C = some (.int (g v), C) := by
  simp [oIx, vS, atI, ixN, hv]
theorem anyF {C : Store} {l : List D} (h : ∀ d ∈ l, d = .bl false) : oAny [.lst l] C = some (.bl false, C) := by
  have e : dBools l = some (l.map fun _ => false) := by
    induction l with
    | nil => rfl
    | cons d l ih =>
      have h1 := h d (List.mem_cons_self ..)
      subst h1
      simp [dBools, ih fun x hx => h x (List.mem_cons_of_mem _ hx)]
  simp [oAny, vL, e]
def big : D → Bool
  | .int n => decide (1000000000 < n)
  | _ => false
theorem flatMap_cg {α β : Type} {f g : α → List β} : ∀ {l : List α}, (∀ x ∈ l, f x = g x) → l.flatMap f = l.flatMap g
  | [], _ => rfl
  | x :: l, h => by rw [List.flatMap_cons, List.flatMap_cons, h x (List.mem_cons_self ..), flatMap_cg fun y hy => h y (List.mem_cons_of_mem _ hy)]
def itemsD : D → List D
  | .lst l => l
  | _ => []
theorem rows_len {N : Nat} {f : Int × Int → Int} {r : List Int} (h : r ∈ rowsOf N f) : r.length = N ∧ ∀ x ∈ r, ∃ u v : Nat, u < N ∧ v < N ∧ x = f (min (u : Int) (v : Int), max (u : Int) (v : Int)) := by
  unfold rowsOf at h
  obtain ⟨u, hu, rfl⟩ := List.mem_map.mp h
  refine ⟨by simp, fun x hx => ?_⟩
  obtain ⟨v, hv, rfl⟩ := List.mem_map.mp hx
  exact ⟨u, v, List.mem_range.mp hu, List.mem_range.mp hv, rfl⟩
/-- d is a list or a tuple of these items, perhaps a cell -/
def SeqD (d : D) (xs : List D) (C : Store) : Prop := d = .lst xs ∨ d = .tup xs ∨ d = .kt xs ∨ ∃ i, d = .cell i ∧ C[i]? = some (some (.lst xs))
theorem SeqD.app {d : D} {xs : List D} {C : Store} (h : SeqD d xs C) (Z : Store) : SeqD d xs (C ++ Z) := by
  rcases h with h | h | h | ⟨i, h, e⟩
  · exact .inl h
  · exact .inr (.inl h)
  · exact .inr (.inr (.inl h))
  · exact .inr (.inr (.inr ⟨i, h, by rw [List.getElem?_append_left (List.getElem?_eq_some_iff.mp e).1]; exact e⟩))
theorem SeqD.seq {d : D} {xs : List D} {C : Store} (h : SeqD d xs C) : SeqIn d xs C := by
  rcases h with rfl | rfl | rfl | ⟨i, rfl, e⟩
  · exact seq_of (seq_lst xs) C
  · exact seq_of (seq_tup xs) C
  · exact seq_of (seq_kt xs) C
  · exact seq_cell e
section
variable {N : Nat} {L : List T3} {C : Store} {d : D}
abbrev fL (L : List T3) : Int × Int → Int := dg0 (sums L)
theorem init_0 {sl : List (Option D)} {fl : Nat} (hN : N ≤ 60) (h : sl[1]? = some (some (.int N))) : b_Web__init_0 ⟨fl, sl⟩ C = .nx sl C := by
  have h60 : (N : Int) ≤ 60 := by omega
  simp [b_Web__init_0, h, is_count_int, h60]
theorem init_1 {sl : List (Option D)} {fl : Nat} {xs : List D} (h : sl[2]? = some (some d)) (hd : SeqD d xs C) : b_Web__init_1 ⟨fl, sl⟩ C = .nx sl C := by
  rcases hd with rfl | rfl | rfl | ⟨i, rfl, e⟩
  · simp [b_Web__init_1, h, mIsi2, isi, tyD, isaT]
  · simp [b_Web__init_1, h, mIsi2, isi, tyD, isaT]
  · simp [b_Web__init_1, h, mIsi2, isi, tyD, isaT]
  · simp [b_Web__init_1, h, mIsi2, isi, tyD, isaT, e]
theorem init_2 {fl i : Nat} (hs : SeqIn d (L.map triD) C) (hv : ∀ t ∈ L, ValidT N t) : ∃ s3 s4, b_Web__init_2 ⟨fl, [some (.cell i), some (.int N), some d, none, none, none, none, none, none, none, none]⟩ C = .nx [some (.cell i), some (.int N), some d, s3, s4, none, none, none, none, none, none] C := by
  obtain ⟨it, hit, pit⟩ := hs.at0
  rw [b_Web__init_2, ev_for, ev_enum (d := d) (it := it) (by simp) hit, forK_ok]
  obtain ⟨sl', C', h1, h2⟩ := loop_on pit.pairs (g := (Tgt.tp [3, 4]).M) (body := b_Web__init_2b_0) (fl := fl)
    (fun j sl St => St = C ∧ ∃ s3 s4, sl = [some (.cell i), some (.int N), some d, s3, s4, none, none, none, none, none, none])
    (fun j sl St hi => ⟨[], by rw [hi.1, List.append_nil]⟩)
    (fun j x sl St hx hi => by
      obtain ⟨rfl, s3, s4, rfl⟩ := hi
      rw [List.getElem?_map, Option.map_eq_some_iff] at hx
      obtain ⟨⟨a, y⟩, hy, rfl⟩ := hx
      obtain ⟨_, hy2⟩ := List.getElem?_zip_eq_some.mp hy
      rw [List.getElem?_map, Option.map_eq_some_iff] at hy2
      obtain ⟨t, ht, rfl⟩ := hy2
      refine ⟨[some (.cell i), some (.int N), some d, some (.int a), some (triD t), none, none, none, none, none, none], [some (.cell i), some (.int N), some d, some (.int a), some (triD t), none, none, none, none, none, none], St, by simp, ?_, rfl, _, _, rfl⟩
      simp [b_Web__init_2b_0, is_tie_true (hv t (List.mem_of_getElem? ht))])
    (sl := [some (.cell i), some (.int N), some d, none, none, none, none, none, none, none, none]) (C := C) ⟨rfl, _, _, rfl⟩
  obtain ⟨rfl, s3, s4, rfl⟩ := h2
  exact ⟨s3, s4, h1⟩
theorem init_3 {fl i : Nat} {s3 s4 : Option D} (hN : N ≤ 60) (hs : SeqIn d (L.map triD) C) (hl : L.length ≤ 1000000) : b_Web__init_3 ⟨fl, [some (.cell i), some (.int N), some d, s3, s4, none, none, none, none, none, none]⟩ C =
    .nx [some (.cell i), some (.int N), some d, s3, s4, some (gridD (rowsOf N (fL L))), none, none, none, none, none] C := by
  simp [b_Web__init_3, grid_of_ok hN hs hl]
theorem init_4 {fl i : Nat} {s3 s4 : Option D} {f : Int × Int → Int} (hN : N ≤ 60) (hf : ∀ u v : Nat, u < N → v < N → f (min (u : Int) (v : Int), max (u : Int) (v : Int)) ≤ 1000000000) :
    b_Web__init_4 ⟨fl, [some (.cell i), some (.int N), some d, s3, s4, some (gridD (rowsOf N f)), none, none, none, none, none]⟩ C = .nx [some (.cell i), some (.int N), some d, s3, s4, some (gridD (rowsOf N f)), none, none, none, none, none] C := by
  have e : mLc2 false (mSeq (mVar 5)) (Tgt.nm 7).M tYesM (mSeq (mVar 7)) (Tgt.nm 8).M tYesM (mOp oGt (mVar 8) (mC (.int 1000000000))) [7, 8] [8] ⟨fl, [some (.cell i), some (.int N), some d, s3, s4, some (gridD (rowsOf N f)), none, none, none, none, none]⟩ C =
      .ok (.lst (flat2 ((rowsOf N f).map fun r => .lst (r.map .int)) itemsD (fun _ _ => true) fun _ y => .bl (big y))) C := by
    refine ev_lc2 (pure_C ((rowsOf N f).map fun r => D.lst (r.map .int))) itemsD (fun _ _ => true) (fun _ y => .bl (big y)) 60 ?_ (fun x hx => ?_) ?_ (by omega) (fun x hx => ?_) (fun _ _ _ _ _ => rfl)
    · exact ev_seqI (d := gridD (rowsOf N f)) (by simp) rfl
    · obtain ⟨r, hr, rfl⟩ := List.mem_map.mp hx
      show (r.map D.int).length ≤ 60
      rw [List.length_map, (rows_len hr).1]
      exact hN
    · have : (rowsOf N f).length = N := by simp [rowsOf]
      rw [List.length_map, this]
      omega
    · obtain ⟨r, hr, rfl⟩ := List.mem_map.mp hx
      refine ⟨[some (.cell i), some (.int N), some d, s3, s4, some (gridD (rowsOf N f)), none, some (.lst (r.map .int)), none, none, none], by simp, fun acc => ⟨⟨itC (r.map .int), pure_C _, ev_seqI (d := .lst (r.map .int)) (by simp) rfl⟩, fun y hy => ?_⟩⟩
      obtain ⟨n, hn, rfl⟩ := List.mem_map.mp hy
      exact ⟨[some (.cell i), some (.int N), some d, s3, s4, some (gridD (rowsOf N f)), none, some (.lst (r.map .int)), some (.int n), none, none], by simp, fun acc => ⟨rfl, fun _ => by simp [big]⟩⟩
  have a := anyF (C := C) (l := flat2 ((rowsOf N f).map fun r => .lst (r.map .int)) itemsD (fun _ _ => true) fun _ y => .bl (big y)) fun x hx => by
    unfold flat2 at hx
    obtain ⟨row, hrow, hx⟩ := List.mem_flatMap.mp hx
    obtain ⟨r, hr, rfl⟩ := List.mem_map.mp hrow
    obtain ⟨y, hy, rfl⟩ := List.mem_map.mp hx
    have hy' := (List.mem_filter.mp hy).1
    obtain ⟨n, hn, rfl⟩ := List.mem_map.mp hy'
    obtain ⟨u, v, hu, hv, rfl⟩ := (rows_len hr).2 n hn
    have := hf u v hu hv
    simp only [big]
    rw [decide_eq_false (by omega)]
  simp only [b_Web__init_4, ev_sif, ev_tst, ev_ap, ev_cons, e, consK_ok, ev_nil, consK2_ok, apK_ok, a, ev_ofO_some, tstK_ok, sifK_f, ev_next]
theorem init_5 {fl i : Nat} {s3 s4 s5 : Option D} (hN : N ≤ 60) : b_Web__init_5 ⟨fl, [some (.cell i), some (.int N), some d, s3, s4, s5, none, none, none, none, none]⟩ C =
    .nx [some (.cell i), some (.int N), some d, s3, s4, s5, some (.lst ((pairsL N).map pD)), none, none, none, none] C := by
  have e : mLc2 false (mRng1 (mVar 1)) (Tgt.nm 9).M tYesM (mRng2 (mOp oAdd (mVar 9) (mC (.int 1))) (mVar 1)) (Tgt.nm 10).M tYesM (mAp oTup (mCons (mVar 9) (mCons (mVar 10) mNil))) [9, 10] [10] ⟨fl, [some (.cell i), some (.int N), some d, s3, s4, s5, none, none, none, none, none]⟩ C =
      .ok (.lst (flat2 (rngI 0 N) (fun x => rngI (asI x + 1) (N - (asI x + 1)).toNat) (fun _ _ => true) fun x y => .tup [x, y])) C := by
    refine ev_lc2 (pure_R 0 N) (fun x => rngI (asI x + 1) (N - (asI x + 1)).toNat) (fun _ _ => true) (fun x y => .tup [x, y]) 60 (by rw [ev_rng1 (j := (N : Int)) (by simp) (inR_nat (by omega))]; simp) (fun x hx => ?_) (by simp [rngI]; omega) (by omega) (fun x hx => ?_) (fun x hx y hy _ => ?_)
    · obtain ⟨u, hu, rfl⟩ := mem_rng hx
      simp [rngI, asI]
      omega
    · obtain ⟨u, hu, rfl⟩ := mem_rng hx
      refine ⟨[some (.cell i), some (.int N), some d, s3, s4, s5, none, none, none, some (.int (0 + (u : Int))), none], by simp, fun acc => ⟨⟨itR ((0 + (u : Int)) + 1) ((N : Int) - ((0 + (u : Int)) + 1)).toNat, pure_R _ _, ?_⟩, fun y hy => ?_⟩⟩
      · exact ev_rng2 (by simp) (by simp) (by have := inR_nat (N := u + 1) (by omega); simpa using this) (inR_nat (by omega))
      · obtain ⟨w, hw, rfl⟩ := mem_rng hy
        exact ⟨[some (.cell i), some (.int N), some d, s3, s4, s5, none, none, none, some (.int (0 + (u : Int))), some (.int (asI (.int (0 + (u : Int))) + 1 + (w : Int)))], by simp, fun acc => ⟨rfl, fun _ => by simp [oTup, szN]⟩⟩
    · obtain ⟨u, hu, rfl⟩ := mem_rng hx
      obtain ⟨w, hw, rfl⟩ := mem_rng hy
      rfl
  have ep : flat2 (rngI 0 N) (fun x => rngI (asI x + 1) (N - (asI x + 1)).toNat) (fun _ _ => true) (fun x y => .tup [x, y]) = (pairsL N).map pD := by
    unfold flat2 pairsL
    rw [List.map_flatMap]
    unfold rngI
    rw [List.flatMap_map]
    apply flatMap_cg
    intro u hu
    have hu' := List.mem_range.mp hu
    rw [filter_yes, List.map_map, List.map_map]
    have e1 : ((N : Int) - (asI (.int (0 + (u : Int))) + 1)).toNat = N - (u + 1) := by simp only [asI]; omega
    rw [e1]
    apply List.map_congr_left
    intro w hw
    simp [pD, asI]
  rw [b_Web__init_5, ev_asg, e, ep]
  simp
end
end CL
set_option maxHeartbeats 4000000
/-! M5: Web(size, ties), made. -/
namespace CL
open PySem L2 CT
theorem fld_ok {c n i : Nat} {me mo : ME} {F : Fr} {C : Store} {v : D} {fs : List D} (h1 : me F C = .ok v C) (h2 : mo F C = .ok (.cell i) C) (h3 : C[i]? = some (some (.ins c fs))) (h4 : n = fs.length) (h5 : cbL 0 (fs ++ [v]) = true) :
    sFldS c n me mo F C = .nx F.sl (C.set i (some (.ins c (fs ++ [v])))) := by
  have w : wr F.fl i (.ins c (fs ++ [v])) C = some (C.set i (some (.ins c (fs ++ [v])))) := by
    unfold wr
    rw [if_neg (fun h => by rw [show cbC 0 (.ins c (fs ++ [v])) = cbL 0 (fs ++ [v]) from rfl, h5] at h; cases h.2)]
  unfold sFldS
  rw [h1]
  simp only [bndS_ok]
  rw [h2]
  simp only [bndS_ok, h3]
  rw [if_pos ⟨trivial, Nat.le_of_eq h4⟩, if_neg (by omega), w]
theorem cbL_app {n : Nat} : ∀ {l m : List D}, cbL n (l ++ m) = (cbL n l && cbL n m)
  | [], m => by simp [cbL]
  | d :: l, m => by
    show (cb n d && cbL n (l ++ m)) = ((cb n d && cbL n l) && cbL n m)
    rw [cbL_app, Bool.and_assoc]
def rowD (N : Nat) (f : Int × Int → Int) (u : Nat) : D := .lst (((List.range N).map fun v : Nat => f (min (u : Int) (v : Int), max (u : Int) (v : Int))).map .int)
theorem gix {N : Nat} {f : Int × Int → Int} {u : Nat} (hu : u < N) (C : Store) : oIx (gridD (rowsOf N f)) (.int u) C = some (rowD N f u, C) := grid_ix hu C
theorem rix {N : Nat} {f : Int × Int → Int} {u v : Nat} (hv : v < N) (C : Store) : oIx (rowD N f u) (.int v) C = some (.int (f (min (u : Int) (v : Int), max (u : Int) (v : Int))), C) := row_ix (g := fun v : Nat => f (min (u : Int) (v : Int), max (u : Int) (v : Int))) hv C
def posB (f : Int × Int → Int) : D → Bool
  | .tup [.int a, .int b] => decide (0 < f (a, b))
  | _ => false
def triB (f : Int × Int → Int) : D → D
  | .tup [.int a, .int b] => triD (a, b, f (a, b))
  | _ => .non
theorem cb_grid (n : Nat) (G : List (List Int)) : cb n (gridD G) = true := by
  show cbL n _ = true
  refine cbL_all fun d hd => ?_
  obtain ⟨r, hr, rfl⟩ := List.mem_map.mp hd
  exact cbL_ints _ _
theorem cb_ties (n : Nat) (l : List T3) : cbL n (l.map triD) = true := cbL_all fun d hd => by
  obtain ⟨t, _, rfl⟩ := List.mem_map.mp hd
  rfl
section
variable {N : Nat} {L : List T3} {C : Store} {d : D}
theorem ties_lc {fl i : Nat} {s3 s4 : Option D} {f : Int × Int → Int} : mLc false (mSeq (mVar 6)) (Tgt.tp [9, 10]).M (mTst (mOp oGt (mOp oIx (mOp oIx (mVar 5) (mVar 9)) (mVar 10)) (mC (.int 0)))) (mAp oTup (mCons (mVar 9) (mCons (mVar 10) (mCons (mOp oIx (mOp oIx (mVar 5) (mVar 9)) (mVar 10)) mNil)))) [9, 10]
    ⟨fl, [some (.cell i), some (.int N), some d, s3, s4, some (gridD (rowsOf N f)), some (.lst ((pairsL N).map pD)), none, none, none, none]⟩ C = .ok (.lst ((tiesL N f).map triD)) C ∨ 3600 < (pairsL N).length := by
  by_cases hz : 3600 < (pairsL N).length
  · exact .inr hz
  refine .inl ?_
  have e := ev_lc (pure_C ((pairsL N).map pD)) (mi := mSeq (mVar 6)) (g := (Tgt.tp [9, 10]).M) (tt := mTst (mOp oGt (mOp oIx (mOp oIx (mVar 5) (mVar 9)) (mVar 10)) (mC (.int 0)))) (te := mAp oTup (mCons (mVar 9) (mCons (mVar 10) (mCons (mOp oIx (mOp oIx (mVar 5) (mVar 9)) (mVar 10)) mNil)))) (vs := [9, 10])
    (F := ⟨fl, [some (.cell i), some (.int N), some d, s3, s4, some (gridD (rowsOf N f)), some (.lst ((pairsL N).map pD)), none, none, none, none]⟩) (C := C) (posB f) (triB f) (ev_seqI (d := .lst ((pairsL N).map pD)) (by simp) rfl) (by rw [List.length_map]; omega)
    (fun x hx => by
      obtain ⟨p, hp, rfl⟩ := List.mem_map.mp hx
      obtain ⟨u, v, h1, h2, rfl⟩ := mem_pairs.mp hp
      have hu : u < N := by omega
      have e1 : min (u : Int) (v : Int) = u := by omega
      have e2 : max (u : Int) (v : Int) = v := by omega
      refine ⟨[some (.cell i), some (.int N), some d, s3, s4, some (gridD (rowsOf N f)), some (.lst ((pairsL N).map pD)), none, none, some (.int u), some (.int v)], by simp [pD], fun acc => ⟨?_, fun _ => ?_⟩⟩
      · simp [gix hu, rix h2, e1, e2, posB, pD]
      · simp [gix hu, rix h2, e1, e2, triB, pD, oTup, szN, triD])
    (fun x hx _ => by
      obtain ⟨p, hp, rfl⟩ := List.mem_map.mp hx
      rfl)
  rw [e]
  congr 2
  unfold tiesL
  rw [List.filter_map, List.map_map, List.map_map]
  rfl
theorem pairs_len (h : N ≤ 60) : (pairsL N).length ≤ 3600 := by
  have : ∀ l : List Nat, (l.flatMap fun u : Nat => (List.range (N - (u + 1))).map fun w : Nat => ((u : Int), ((u + 1 + w : Nat) : Int))).length ≤ l.length * 60 := by
    intro l
    induction l with
    | nil => simp
    | cons u l ih =>
      rw [List.flatMap_cons, List.length_append, List.length_cons, List.length_map, List.length_range, Nat.succ_mul]
      omega
  have h2 := this (List.range N)
  rw [List.length_range] at h2
  have h3 : N * 60 ≤ 3600 := by omega
  exact Nat.le_trans h2 h3
end
end CL
set_option maxHeartbeats 4000000
/-! M6: the instance. -/
namespace CL
open PySem L2 CT
section
variable {N : Nat} {L : List T3} {C : Store} {d : D}
/-- the ties fit into a web of N places -/
structure Fits (N : Nat) (L : List T3) : Prop where
  n : N ≤ 60
  v : ∀ t ∈ L, ValidT N t
  l : L.length ≤ 1000000
  s : ∀ u v : Nat, u < N → v < N → fL L (min (u : Int) (v : Int), max (u : Int) (v : Int)) ≤ 1000000000
theorem init_ok (h : Fits N L) (hd : SeqD d (L.map triD) C) : m_Web__init [.cell C.length, .int N, d] (C ++ [some (.ins 0 [])]) = .ok .non (C ++ [some (.ins 0 [.int N, gridD (rowsOf N (fL L)), .tup ((tiesL N (fL L)).map triD)])]) := by
  have st : ∀ x y : Option Cell, (C ++ [x]).set C.length y = C ++ [y] := fun x y => by simp
  have gt : ∀ x : Option Cell, (C ++ [x])[C.length]? = some x := fun x => by simp
  have hd1 := hd.app [some (.ins 0 [])]
  rw [e_Web__init, b_Web__init, ev_seq, init_0 h.n rfl, seqK_nx, ev_seq, init_1 rfl hd1, seqK_nx, ev_seq]
  obtain ⟨s3, s4, e2⟩ := init_2 (C := C ++ [some (.ins 0 [])]) (fl := (C ++ [some (Cell.ins 0 [])]).length) (i := C.length) hd1.seq h.v
  rw [e2, seqK_nx, ev_seq, init_3 h.n hd1.seq h.l, seqK_nx, ev_seq, init_4 h.n h.s, seqK_nx, ev_seq, init_5 h.n, seqK_nx, ev_seq]
  have e6 : ∀ fl sl, sl[0]? = some (some (D.cell C.length)) → sl[1]? = some (some (.int N)) → b_Web__init_6 ⟨fl, sl⟩ (C ++ [some (.ins 0 [])]) = .nx sl (C ++ [some (.ins 0 [.int N])]) := fun fl sl h0 h1 => by
    rw [b_Web__init_6, fld_ok (n := 0) (v := .int N) (i := C.length) (fs := []) (by simp [h1]) (by simp [h0]) (gt _) rfl rfl, st]
    rfl
  have e7 : ∀ fl sl, sl[0]? = some (some (D.cell C.length)) → sl[5]? = some (some (gridD (rowsOf N (fL L)))) → b_Web__init_7 ⟨fl, sl⟩ (C ++ [some (.ins 0 [.int N])]) = .nx sl (C ++ [some (.ins 0 [.int N, gridD (rowsOf N (fL L))])]) := fun fl sl h0 h1 => by
    rw [b_Web__init_7, fld_ok (n := 1) (v := gridD (rowsOf N (fL L))) (i := C.length) (fs := [.int N]) (by simp [h1]) (by simp [h0]) (gt _) rfl (by
      rw [cbL_app]
      show (true && (cb 0 (gridD (rowsOf N (fL L))) && true)) = true
      rw [cb_grid]
      rfl), st]
    rfl
  rw [e6 _ _ rfl rfl, seqK_nx, ev_seq, e7 _ _ rfl rfl, seqK_nx]
  have el : mLc false (mSeq (mVar 6)) (Tgt.tp [9, 10]).M (mTst (mOp oGt (mOp oIx (mOp oIx (mVar 5) (mVar 9)) (mVar 10)) (mC (.int 0)))) (mAp oTup (mCons (mVar 9) (mCons (mVar 10) (mCons (mOp oIx (mOp oIx (mVar 5) (mVar 9)) (mVar 10)) mNil)))) [9, 10]
      ⟨(C ++ [some (Cell.ins 0 [])]).length, [some (.cell C.length), some (.int N), some d, s3, s4, some (gridD (rowsOf N (fL L))), some (.lst ((pairsL N).map pD)), none, none, none, none]⟩ (C ++ [some (.ins 0 [.int N, gridD (rowsOf N (fL L))])]) = .ok (.lst ((tiesL N (fL L)).map triD)) (C ++ [some (.ins 0 [.int N, gridD (rowsOf N (fL L))])]) := by
    rcases ties_lc (N := N) (d := d) (C := C ++ [some (.ins 0 [.int N, gridD (rowsOf N (fL L))])]) (fl := (C ++ [some (Cell.ins 0 [])]).length) (i := C.length) (s3 := s3) (s4 := s4) (f := fL L) with e | e
    · exact e
    · have := pairs_len h.n
      omega
  rw [b_Web__init_8, fld_ok (n := 2) (v := .tup ((tiesL N (fL L)).map triD)) (i := C.length) (fs := [.int N, gridD (rowsOf N (fL L))]) (by
    rw [ev_ap, ev_cons]
    simp only [List.cons_append, List.nil_append]
    rw [el]
    simp [oTupOf, vL]) (by simp) (gt _) rfl (by
    show (true && (cb 0 (gridD (rowsOf N (fL L))) && (cbL 0 ((tiesL N (fL L)).map triD) && true))) = true
    rw [cb_grid, cb_ties]
    rfl), st, finS_nx, fin_non]
  congr 1
  exact List.take_of_length_le (by simp)
theorem make_ok {F : Fr} {a : MA} {dds ds : List D} (h : Fits N L) (hd : SeqD d (L.map triD) C) (ha : a F C = .ok ds C) (e : ds ++ dds = [.int N, d]) : mMake false 0 3 m_Web__init dds a F C = .ok (webD N (fL L)) C := by
  unfold mMake
  rw [ha]
  simp only [bnd_ok]
  rw [e, init_ok h hd]
  have gt : ∀ x : Option Cell, (C ++ [x])[C.length]? = some x := fun x => by simp
  simp only [gt]
  have c : cbL C.length [.int N, gridD (rowsOf N (fL L)), .tup ((tiesL N (fL L)).map triD)] = true := by
    show (true && (cb C.length (gridD (rowsOf N (fL L))) && (cbL C.length ((tiesL N (fL L)).map triD) && true))) = true
    rw [cb_grid, cb_ties]
    rfl
  simp [c, webD]
end
end CL
set_option maxHeartbeats 4000000
/-! M7: total, degrees, within, changed, crossing. -/
namespace CL
open PySem L2 CT
@[simp] theorem dInts_map : ∀ l : List Int, dInts (l.map D.int) = some l
  | [] => rfl
  | x :: l => by
    show (dInts (l.map D.int)).map _ = _
    rw [dInts_map l]
    rfl
@[simp] theorem dBools_map : ∀ l : List Bool, dBools (l.map D.bl) = some l
  | [] => rfl
  | x :: l => by
    show (dBools (l.map D.bl)).map _ = _
    rw [dBools_map l]
    rfl
theorem sum_ints (l : List Int) (C : Store) : oSum [.lst (l.map .int)] C = some (.int l.sum, C) := by
  simp [oSum, vL]
theorem all_bls (l : List Bool) (C : Store) : oAll [.lst (l.map .bl)] C = some (.bl (l.all id), C) := by
  simp [oAll, vL]
def thirdD : D → D
  | .tup [_, _, z] => z
  | _ => .non
section
variable {N M : Nat} {f g : Int × Int → Int} {C : Store}
theorem mem_ties {t : T3} : t ∈ tiesL N f ↔ ∃ u v : Nat, u < v ∧ v < N ∧ 0 < f ((u : Int), (v : Int)) ∧ t = ((u : Int), (v : Int), f ((u : Int), (v : Int))) := by
  unfold tiesL
  rw [List.mem_map]
  constructor
  · rintro ⟨p, hp, rfl⟩
    obtain ⟨h1, h2⟩ := List.mem_filter.mp hp
    obtain ⟨u, v, a, b, rfl⟩ := mem_pairs.mp h1
    exact ⟨u, v, a, b, of_decide_eq_true h2, rfl⟩
  · rintro ⟨u, v, a, b, c, rfl⟩
    exact ⟨(u, v), List.mem_filter.mpr ⟨mem_pairs.mpr ⟨u, v, a, b, rfl⟩, decide_eq_true c⟩, rfl⟩
theorem ties_len (h : N ≤ 60) : (tiesL N f).length ≤ 3600 := by
  unfold tiesL
  rw [List.length_map]
  exact Nat.le_trans (List.length_filter_le _ _) (pairs_len h)
end
end CL
set_option maxHeartbeats 4000000
/-! M9: plain facts on sums. -/
namespace CL
open PySem L2 CT
/-- what the items give a pair together -/
def tot (L : List T3) (k : Int × Int) : Int := (L.map fun t => if pr t = k then t.2.2 else 0).sum
theorem dg0_fold (k : Int × Int) : ∀ (L : List T3) (d : Dc), dg0 (L.foldl addT d) k = dg0 d k + tot L k
  | [], d => by simp [tot]
  | t :: L, d => by
    rw [List.foldl_cons, dg0_fold k L]
    unfold addT
    rw [dg0_dp]
    by_cases h : k = pr t
    · subst h
      simp [tot]
      omega
    · have h' : ¬ pr t = k := fun e => h e.symm
      simp [tot, h, h']
theorem dg0_sums (L : List T3) (k : Int × Int) : dg0 (sums L) k = tot L k := by
  have := dg0_fold k L []
  rw [show dg0 ([] : Dc) k = 0 from rfl, Int.zero_add] at this
  exact this
theorem tot_app (L M : List T3) (k : Int × Int) : tot (L ++ M) k = tot L k + tot M k := by
  simp [tot]
theorem tot_cons (t : T3) (L : List T3) (k : Int × Int) : tot (t :: L) k = (if pr t = k then t.2.2 else 0) + tot L k := by
  simp [tot]
theorem tot_nonneg {L : List T3} {k : Int × Int} (h : ∀ t ∈ L, 0 ≤ t.2.2) : 0 ≤ tot L k := by
  induction L with
  | nil => simp [tot]
  | cons t L ih =>
    rw [tot_cons]
    have h1 := h t (List.mem_cons_self ..)
    have h2 := ih fun s hs => h s (List.mem_cons_of_mem _ hs)
    split <;> omega
theorem fold_keys : ∀ (L : List T3) (d : Dc), (d.map (·.1)).Nodup → ((L.foldl addT d).map (·.1)).Nodup
  | [], d, h => h
  | t :: L, d, h => by
    rw [List.foldl_cons]
    exact fold_keys L _ (dp_keys _ _ _ h)
theorem sums_keys (L : List T3) : ((sums L).map (·.1)).Nodup := fold_keys L [] (by simp)
theorem fold_mem {P : (Int × Int) × Int → Prop} : ∀ (L : List T3) (d : Dc), (∀ p ∈ d, P p) → (∀ t ∈ L, ∀ n, P (pr t, n)) → ∀ p ∈ L.foldl addT d, P p
  | [], d, h, _, p, hp => h p hp
  | t :: L, d, h, g, p, hp => by
    rw [List.foldl_cons] at hp
    refine fold_mem L _ (fun q hq => ?_) (fun s hs => g s (List.mem_cons_of_mem _ hs)) p hp
    rcases mem_dp hq with rfl | hq
    · exact g t (List.mem_cons_self ..) _
    · exact h q hq
/-- the ties of a web tell its numbers -/
theorem tot_ties {N : Nat} {f : Int × Int → Int} {a b : Int} (h0 : ∀ p, 0 ≤ f p) : ∀ {l : List (Int × Int)}, (∀ p ∈ l, p.1 ≤ p.2) → l.Nodup → tot ((l.filter fun p => decide (0 < f p)).map fun p => (p.1, p.2, f p)) (a, b) = if (a, b) ∈ l then f (a, b) else 0
  | [], _, _ => by simp [tot]
  | p :: l, ho, nd => by
    rw [List.nodup_cons] at nd
    have ih := tot_ties (N := N) (f := f) (a := a) (b := b) h0 (fun q hq => ho q (List.mem_cons_of_mem _ hq)) nd.2
    have hp := ho p (List.mem_cons_self ..)
    have e1 : pr (p.1, p.2, f p) = p := by
      show (min p.1 p.2, max p.1 p.2) = p
      rw [show min p.1 p.2 = p.1 by omega, show max p.1 p.2 = p.2 by omega]
    rw [List.filter_cons]
    by_cases hf : 0 < f p
    · rw [if_pos (decide_eq_true hf), List.map_cons, tot_cons, ih, e1]
      by_cases e : p = (a, b)
      · subst e
        rw [if_pos rfl, if_neg nd.1, if_pos (List.mem_cons_self ..)]
        show f (a, b) + 0 = f (a, b)
        omega
      · rw [if_neg e]
        have e' : ¬ (a, b) = p := fun z => e z.symm
        simp [e']
    · rw [if_neg (by simpa using hf), ih]
      have z : f p = 0 := by have := h0 p; omega
      by_cases e : p = (a, b)
      · subst e
        rw [if_neg nd.1, if_pos (List.mem_cons_self ..), z]
      · have e' : ¬ (a, b) = p := fun z => e z.symm
        simp [e']
theorem pairs_nodup (N : Nat) : (pairsL N).Nodup := by
  unfold pairsL
  have key : ∀ l : List Nat, l.Nodup → (l.flatMap fun u : Nat => (List.range (N - (u + 1))).map fun w : Nat => ((u : Int), ((u + 1 + w : Nat) : Int))).Nodup := by
    intro l
    induction l with
    | nil => intro _; simp
    | cons u l ih =>
      intro hl
      rw [List.nodup_cons] at hl
      rw [List.flatMap_cons, List.nodup_append]
      refine ⟨?_, ih hl.2, ?_⟩
      · apply nodup_map_on List.nodup_range
        intro x _ y _ e
        have := congrArg Prod.snd e
        simp only at this
        omega
      · intro a ha b hb e
        subst e
        obtain ⟨w, _, rfl⟩ := List.mem_map.mp ha
        obtain ⟨u', hu', hb'⟩ := List.mem_flatMap.mp hb
        obtain ⟨w', _, e⟩ := List.mem_map.mp hb'
        have := congrArg Prod.fst e
        simp only at this
        have eu : u' = u := by omega
        subst eu
        exact hl.1 hu'
  exact key _ List.nodup_range
local macro_rules | `(tactic| walk_at "w") => `(tactic| first | ((with_reducible apply gR); first | with_reducible refine w_var rfl ?_ | with_reducible apply w_cons | with_reducible apply w_c | with_reducible apply w_nil | with_reducible apply w_op | with_reducible apply w_ap | with_reducible apply w_call | with_reducible apply w_tst | with_reducible apply w_un | with_reducible apply w_tand | with_reducible apply w_tor | with_reducible apply w_tnot | with_reducible apply w_yes | with_reducible apply w_and | with_reducible apply w_or | with_reducible apply w_not | with_reducible apply w_if | with_reducible apply w_chain | with_reducible apply w_isi | with_reducible apply w_isi2 | with_reducible apply w_prop | with_reducible apply w_meth | with_reducible apply w_dget | with_reducible apply w_dnewF | with_reducible apply w_dnewT | with_reducible apply w_part | with_reducible apply w_noPart | with_reducible apply w_slLF | with_reducible apply w_slA | with_reducible apply w_ok | with_reducible apply w_ofO | with_reducible apply w_lcI | with_reducible apply w_seqI | with_reducible apply w_rng1 | with_reducible apply w_rng2 | with_reducible apply w_enum) | ((with_reducible apply gO); first | with_reducible apply wo_add | with_reducible apply wo_sub | with_reducible apply wo_lt | with_reducible apply wo_gt | with_reducible apply wo_eq | with_reducible apply wo_ne | with_reducible apply wo_le | with_reducible apply wo_ge | with_reducible apply wo_neg | with_reducible apply wo_eqS | with_reducible apply wo_neS | with_reducible apply wo_min | with_reducible apply wo_max | with_reducible apply wo_int | with_reducible apply wo_abs | with_reducible apply wo_tupL | with_reducible apply wo_tupT | with_reducible refine wo_tup (by with_unfolding_all rfl) ?_ | with_reducible refine wo_lstF (by with_unfolding_all rfl) ?_ | with_reducible refine wo_lstT (by with_unfolding_all rfl) ?_ | with_reducible apply wo_fld0 | with_reducible apply wo_fldH0 | with_reducible apply wo_fld1 | with_reducible apply wo_fld2 | with_reducible apply wo_fldW0 | with_reducible apply wo_fldW1 | with_reducible apply wo_fldW2) | ((with_reducible apply gS); first | with_reducible apply w_seq | with_reducible apply w_asg | with_reducible apply w_sif | with_reducible apply w_next | with_reducible apply w_ret | with_reducible apply w_par | with_reducible apply w_drop | with_reducible apply w_asgT | with_reducible apply w_retN | with_reducible apply w_brk | with_reducible apply w_cnt | with_reducible apply w_raise | with_reducible apply w_forI) | ((with_reducible apply gI); first | with_reducible apply wI_t | with_reducible apply wI_f | with_reducible apply wI_not) | with_reducible apply w_bl | with_reducible apply thn_nx | with_reducible apply w_int | with_reducible apply w_obj | with_reducible apply thn_rt | with_reducible apply lp_nx | with_reducible apply fnl_int | with_reducible apply fnl_bl | with_reducible apply fnl_non | with_reducible apply fnl_str | with_reducible apply fnl_nx | with_reducible apply thn_bk | with_reducible apply thn_ct | with_reducible apply thn_xc | with_reducible apply lp_rt | with_reducible apply lp_bk | with_reducible apply lp_xc | with_reducible apply w_itL | with_reducible apply w_itT | with_reducible apply w_itK)
local macro_rules | `(tactic| walk_at "p") => `(tactic| repeat walk_at "w")
/-! RA1q: functions of webs; plain, free of dicts. -/
structure FOk (N : Nat) (f : Int × Int → Int) : Prop where
  n : N ≤ 60
  b : ∀ p, 0 ≤ f p ∧ f p ≤ 1000000000
  z : ∀ p, p ∉ pairsL N → f p = 0
section
variable {N : Nat} {C : Store} {L : List T3} {u v n : Int} {f g : Int × Int → Int} {k : Int × Int}
theorem mem_pairsI {p : Int × Int} : p ∈ pairsL N ↔ 0 ≤ p.1 ∧ p.1 < p.2 ∧ p.2 < N := by
  rw [mem_pairs]
  constructor
  · rintro ⟨u, v, h1, h2, rfl⟩
    simp only
    omega
  · intro h
    exact ⟨p.1.toNat, p.2.toNat, by omega, by omega, Prod.ext (by simp only; omega) (by simp only; omega)⟩
theorem tot_tiesF (h : FOk N f) (k : Int × Int) : tot (tiesL N f) k = f k := by
  have e := tot_ties (N := N) (f := f) (a := k.1) (b := k.2) (fun p => (h.b p).1) (l := pairsL N) (fun p hp => by
    have := mem_pairsI.mp hp
    omega) (pairs_nodup N)
  have e2 : ((k.1, k.2) : Int × Int) = k := rfl
  rw [e2] at e
  unfold tiesL
  rw [e]
  split
  · rfl
  · rename_i hk
    rw [h.z k hk]
theorem tie_valid (h : FOk N f) {t : T3} (ht : t ∈ tiesL N f) : ValidT N t := by
  obtain ⟨a, b, h1, h2, h3, rfl⟩ := mem_ties.mp ht
  have := h.b ((a : Int), (b : Int))
  exact ⟨by simp only; omega, by simp only; omega, by simp only; omega, by simp only; omega, by simp only; omega, by simp only; omega, by simp only; omega⟩
theorem pr_tie {t : T3} (ht : t ∈ tiesL N f) : pr t = (t.1, t.2.1) ∧ t.2.2 = f (t.1, t.2.1) ∧ 0 ≤ t.1 ∧ t.1 < t.2.1 ∧ t.2.1 < N := by
  obtain ⟨a, b, h1, h2, h3, rfl⟩ := mem_ties.mp ht
  refine ⟨?_, rfl, by simp only; omega, by simp only; omega, by simp only; omega⟩
  unfold pr
  simp only
  rw [show min (a : Int) (b : Int) = a by omega, show max (a : Int) (b : Int) = b by omega]
end
end CL
set_option maxHeartbeats 4000000
/-! M10: a dict's keys in order; _law_made. -/
namespace CL
open PySem L2 CT
def le2 (p q : Int × Int) : Bool := decide (p.1 < q.1 ∨ (p.1 = q.1 ∧ p.2 ≤ q.2))
def sk (d : Dc) : List (Int × Int) := (d.map (·.1)).mergeSort le2
theorem sk_perm (d : Dc) : (sk d).Perm (d.map (·.1)) := List.mergeSort_perm _ _
theorem mem_sk {d : Dc} {p : Int × Int} : p ∈ sk d ↔ p ∈ d.map (·.1) := (sk_perm d).mem_iff
/-- a dict of sums for N places -/
structure DOk (N : Nat) (d : Dc) : Prop where
  n : N ≤ 60
  nd : (d.map (·.1)).Nodup
  k : ∀ p ∈ d, 0 ≤ p.1.1 ∧ p.1.1 < p.1.2 ∧ p.1.2 < N ∧ 0 ≤ p.2 ∧ p.2 ≤ 1000000000
  l : d.length ≤ 900
theorem dg0_key {d : Dc} (h : (d.map (·.1)).Nodup) {p : (Int × Int) × Int} (hp : p ∈ d) : dg d p.1 = some p.2 := mem_dg h (by exact hp)
section
variable {N : Nat} {d : Dc} {C : Store} {x : D}
theorem DOk.f (h : DOk N d) (p : Int × Int) : 0 ≤ dg0 d p ∧ dg0 d p ≤ 1000000000 := by
  unfold dg0
  cases e : dg d p with
  | none => simp
  | some n =>
    have := h.k _ (dg_mem e)
    exact ⟨this.2.2.2.1, this.2.2.2.2⟩
theorem DOk.key (h : DOk N d) {p : Int × Int} (hp : p ∈ sk d) : 0 ≤ p.1 ∧ p.1 < p.2 ∧ p.2 < N ∧ ∃ n, dg d p = some n := by
  obtain ⟨q, hq, rfl⟩ := List.mem_map.mp (mem_sk.mp hp)
  have := h.k q hq
  exact ⟨this.1, this.2.1, this.2.2.1, q.2, dg0_key h.nd hq⟩
theorem tot_map {f : Int × Int → Int} {k : Int × Int} : ∀ {l : List (Int × Int)}, (∀ p ∈ l, p.1 < p.2) → l.Nodup → tot (l.map fun p => (p.1, p.2, f p)) k = if k ∈ l then f k else 0
  | [], _, _ => by simp [tot]
  | p :: l, ho, nd => by
    rw [List.nodup_cons] at nd
    have ih := tot_map (f := f) (k := k) (fun q hq => ho q (List.mem_cons_of_mem _ hq)) nd.2
    have hp := ho p (List.mem_cons_self ..)
    have e1 : pr (p.1, p.2, f p) = p := by
      show (min p.1 p.2, max p.1 p.2) = p
      rw [show min p.1 p.2 = p.1 by omega, show max p.1 p.2 = p.2 by omega]
    rw [List.map_cons, tot_cons, ih, e1]
    by_cases e : p = k
    · subst e
      rw [if_pos rfl, if_neg nd.1, if_pos (List.mem_cons_self ..)]
      show f p + 0 = f p
      omega
    · rw [if_neg e]
      have e' : ¬ k = p := fun z => e z.symm
      simp [e']
end
end CL
set_option maxHeartbeats 4000000
/-! M11: what repr may be asked of. -/
namespace CL
open PySem L2 CT
theorem repr_of {x : D} {C : Store} {p : PyData} (e : toP C x = some p) (h : repOk p = true) : oRepr [x] C = some (.str p.shown, C) := by
  simp [oRepr, e, h]
end CL
set_option maxHeartbeats 4000000
/-! M12: the ties in order; degrees. -/
set_option maxHeartbeats 4000000
/-! M13: _law_web_is, its first parts. -/
set_option maxHeartbeats 4000000
/-! M16: degrees add up to twice the total. -/
set_option maxHeartbeats 4000000
/-! M18: what is told, as data. -/
namespace CL
open PySem L2 CT
def triP (t : T3) : PyData := .tuple [.int t.1, .int t.2.1, .int t.2.2]
theorem toPs_tri (Y : Store) : ∀ l : List T3, toPs Y (l.map triD) = some (l.map triP)
  | [] => rfl
  | x :: l => by
    have ih := toPs_tri Y l
    simp only [List.map_cons, toPs, toP, triD, ih, triP, Option.map_some]
end CL
set_option maxHeartbeats 4000000
/-! M19: bounds of what is told. -/
set_option maxHeartbeats 4000000
/-! M20: _law_web_is of the web of a dict. -/
set_option maxHeartbeats 4000000
/-! M22: the bag. -/
namespace CL
open PySem L2 CT
def absD : D → D
  | .int i => .int (i.natAbs : Int)
  | _ => .non
theorem bag_ok (ns : List Int) (hl : ns.length ≤ 63) : ∃ cs : List Int, (∀ c ∈ cs, 0 ≤ c) ∧ m_law_bag [scrD ns] [] = .ok (.cell 0) [some (bagC 0 1234567891 0 cs)] := by
  obtain ⟨ms, e, hm⟩ : ∃ ms : List Int, cutD (ns.map D.int) none (some 63) = ms.map D.int ∧ ms.length ≤ 63 := by
    refine ⟨(ns.drop (HT.sIx (ns.map D.int).length 0 none)).take (HT.sIx (ns.map D.int).length (ns.map D.int).length (some 63) - HT.sIx (ns.map D.int).length 0 none), ?_, ?_⟩
    · unfold cutD
      rw [List.map_take, List.map_drop]
    · rw [List.length_take, List.length_drop]
      omega
  refine ⟨ms.map fun i => (i.natAbs : Int), fun c hc => ?_, ?_⟩
  · obtain ⟨i, _, rfl⟩ := List.mem_map.mp hc
    omega
  have es : mSlL false (mVar 0) mNoPart (mPart (mC (.int 63))) ⟨0, [some (scrD ns), none]⟩ [] = .ok (.lst (ms.map D.int)) [] := by
    show ofO (some (mkL false (cutD (ns.map D.int) none (some 63)) [])) = _
    rw [e]
    rfl
  have el := ev_lc (pure_C (ms.map D.int)) (mi := mSeq (mSlL false (mVar 0) mNoPart (mPart (mC (.int 63))))) (g := (Tgt.nm 1).M) (tt := tYesM) (te := mAp oAbs (mCons (mVar 1) mNil)) (vs := [1]) (F := ⟨0, [some (scrD ns), none]⟩) (C := []) (fun _ => true) absD
    (ev_seqI (d := .lst (ms.map D.int)) es rfl) (by rw [List.length_map]; omega)
    (fun y hy => by
      obtain ⟨i, _, rfl⟩ := List.mem_map.mp hy
      exact ⟨[some (scrD ns), some (.int i)], by simp, fun acc => ⟨rfl, fun _ => by simp [absD]⟩⟩)
    (fun y hy _ => by
      obtain ⟨i, _, rfl⟩ := List.mem_map.mp hy
      rfl)
  rw [filter_yes, List.map_map] at el
  have eb : b_law_bag ⟨0, [some (scrD ns), none]⟩ [] = .rt (.cell 0) [some (bagC 0 1234567891 0 (ms.map fun i => (i.natAbs : Int)))] := by
    rw [b_law_bag, ev_sret, ev_ap, ev_cons, ev_c, consK_ok, ev_cons, ev_c, consK_ok, ev_cons, ev_c, consK_ok, ev_cons, el, consK_ok, ev_nil, consK2_ok, consK2_ok, consK2_ok, consK2_ok, apK_ok]
    have eo : ∀ x : D, oLst true [.int 0, .int 1234567891, .int 0, x] [] = some (.cell 0, [some (.lst [.int 0, .int 1234567891, .int 0, x])]) := fun x => by simp [oLst, szN, mkL]
    rw [eo, ev_ofO_some, retK_ok, bagC, List.map_map]
    rfl
  have ed : m_law_bag [scrD ns] [] = (match b_law_bag ⟨0, [some (scrD ns), none]⟩ [] with
    | .rt d C' => finO 0 d C'
    | .xc e _ C' => if cbL 0 e.fs = true then .exc e (C'.take 0) else .stuck
    | _ => .stuck) := rfl
  have cI := cbL_ints 0 (ms.map fun i => (i.natAbs : Int))
  rw [List.map_map] at cI
  rw [ed, eb]
  simp [finO, bagC, cbL, cb, cI]
end CL
set_option maxHeartbeats 4000000
/-! M23: draws from a bag that lies below other cells; lists of the def's own. -/
namespace CL
open PySem L2 CT
/-- a bag at i -/
def Bg (i : Nat) (C : Store) : Prop := ∃ cs, (∀ x ∈ cs, 0 ≤ x) ∧ Bag i cs C
/-- the bag alone has changed -/
def To (i : Nat) (C C' : Store) : Prop := ∃ x, C' = C.set i (some x) ∧ Bg i C'
section
variable {i : Nat} {C C' C'' Y Z : Store} {n : Int}
theorem Bg.lt (h : Bg i C) : i < C.length := by
  obtain ⟨cs, _, a, b, c, e, _⟩ := h
  exact (List.getElem?_eq_some_iff.mp e).1
theorem Bg.app (h : Bg i C) (Y : Store) : Bg i (C ++ Y) := by
  have hi := h.lt
  obtain ⟨cs, hcs, a, b, c, e, q⟩ := h
  exact ⟨cs, hcs, a, b, c, by rw [List.getElem?_append_left hi]; exact e, q⟩
theorem Bg.cut (hi : i < C.length) (h : Bg i (C ++ Y)) : Bg i C := by
  obtain ⟨cs, hcs, a, b, c, e, q⟩ := h
  exact ⟨cs, hcs, a, b, c, by rw [List.getElem?_append_left hi] at e; exact e, q⟩
theorem To.bg (h : To i C C') : Bg i C' := by
  obtain ⟨x, _, b⟩ := h
  exact b
theorem To.len (h : To i C C') : C'.length = C.length := by
  obtain ⟨x, rfl, _⟩ := h
  simp
theorem To.trans (h : To i C C') (g : To i C' C'') : To i C C'' := by
  obtain ⟨x, rfl, _⟩ := h
  obtain ⟨y, rfl, b⟩ := g
  exact ⟨y, by simp, b⟩
theorem To.refl (h : Bg i C) : To i C C := by
  obtain ⟨cs, hcs, a, b, c, e, q⟩ := h
  refine ⟨bagC a b c cs, ?_, cs, hcs, a, b, c, e, q⟩
  obtain ⟨h1, h2⟩ := List.getElem?_eq_some_iff.mp e
  have z := List.set_getElem_self (as := C) (i := i) h1
  rw [h2] at z
  exact z.symm
theorem To.cut (hi : i < C.length) (h : To i (C ++ Y) Z) : ∃ C', Z = C' ++ Y ∧ To i C C' := by
  obtain ⟨x, rfl, b⟩ := h
  rw [List.set_append_left _ _ hi] at b ⊢
  exact ⟨_, rfl, x, rfl, b.cut (by simpa using hi)⟩
theorem take_to (hB : Bg i C) (hn : 0 < n) (hn2 : n < 4611686018427387904) (Y : Store) : ∃ r C', m_law_take [.cell i, .int n] (C ++ Y) = .ok (.int r) (C' ++ Y) ∧ 0 ≤ r ∧ r < n ∧ To i C C' := by
  have hi := hB.lt
  obtain ⟨cs, hcs, hB'⟩ := hB.app Y
  obtain ⟨r, x, e, h1, h2, h3⟩ := take_ok hB' hcs hn hn2
  obtain ⟨C', e2, t⟩ := To.cut hi (⟨x, rfl, cs, hcs, h3⟩ : To i (C ++ Y) ((C ++ Y).set i (some x)))
  exact ⟨r, C', by rw [e, e2], h1, h2, t⟩
end
theorem ins_ok {mo mi me : ME} {F : Fr} {C C1 : Store} {i : Nat} {v : D} {ds : List D} {n : Int} (h1 : mo F C = .ok (.cell i) C) (h0 : C[i]? = some (some (.lst ds))) (hi : mi F C = .ok (.int n) C1) (h2 : me F C1 = .ok v C1) (h3 : C1[i]? = some (some (.lst ds))) (h4 : ds.length < 16777216) (h5 : F.fl ≤ i) (hn : 0 ≤ n) (hn2 : n < 1000000000) :
    mInsert mo mi me F C = .ok .non (C1.set i (some (.lst (ds.take n.toNat ++ [v] ++ ds.drop n.toNat)))) := by
  have hz : szN (ds.length + 1) = true := by simp [szN]; omega
  have w : wr F.fl i (.lst (ds.take n.toNat ++ [v] ++ ds.drop n.toNat)) C1 = some (C1.set i (some (.lst (ds.take n.toNat ++ [v] ++ ds.drop n.toNat)))) := by
    unfold wr
    rw [if_neg (fun h => by omega)]
  have hn3 : n < 2 ^ 63 := by omega
  unfold mInsert
  rw [h1]
  simp only [bnd_ok, vL, h0, Option.isSome_some, if_true]
  rw [hi]
  simp only [bnd_ok]
  rw [h2]
  simp only [bnd_ok, cL, h3]
  rw [if_pos ⟨hz, hn, hn3⟩, w]
end CL
set_option maxHeartbeats 4000000
/-! M24: _law_mixed. -/
namespace CL
open PySem L2 CT
theorem cbL_nats (n : Nat) (zs : List Nat) : cbL n (zs.map fun u : Nat => D.int u) = true := cbL_all fun d hd => by
  obtain ⟨z, _, rfl⟩ := List.mem_map.mp hd
  rfl
theorem fin_own {A Y : Store} {n : Nat} {xs : List D} (hn : A.length = n) (hc : cbL n xs = true) : fin n (.cell n) (A ++ some (.lst xs) :: Y) = .ok (.lst xs) A := by
  have g : (A ++ some (Cell.lst xs) :: Y)[n]? = some (some (.lst xs)) := by simp [← hn]
  have t : (A ++ some (Cell.lst xs) :: Y).take n = A := by simp [← hn]
  have f : fz n (.cell n) (A ++ some (Cell.lst xs) :: Y) = .lst xs := by
    simp only [fz, Nat.lt_irrefl, if_false, g]
  unfold fin
  rw [f, show cb n (.lst xs) = cbL n xs from rfl, hc, if_pos rfl, t]
end CL
set_option maxHeartbeats 4000000
/-! N25a: sums of items (split from N25). -/
namespace CL
open PySem L2 CT
/-- items that a web of N places can have -/
structure ItOk (N : Nat) (L : List T3) : Prop where
  v : ∀ t ∈ L, ValidT N t
  s : ∀ k, tot L k ≤ 1000000000
end CL
set_option maxHeartbeats 4000000
/-! O1c: counts of anything (split from O1). -/
set_option maxHeartbeats 4000000
/-! E4: what a run must lead to, told backwards. -/
namespace CT
open PySem L2
/-! ### results -/
def wR0 {α : Type} (r : R α) (Q : α → Store → Prop) (E : Exc → Store → Prop) : Prop := match r with
  | .ok a C => Q a C
  | .exc e C => E e C
  | .stuck => False
/-- kept shut, so that no goal is worked out by chance -/
structure wR {α : Type} (r : R α) (Q : α → Store → Prop) (E : Exc → Store → Prop) : Prop where
  h : wR0 r Q E
structure wO (o : Option (D × Store)) (Q : D → Store → Prop) : Prop where
  h : ∃ d C, o = some (d, C) ∧ Q d C
structure wS (r : RS) (P : RS → Prop) : Prop where
  h : P r
structure wI (b : Bool) (p q : Prop) : Prop where
  h : if b = true then p else q
abbrev noX : Exc → Store → Prop := fun _ _ => False
section
variable {α β : Type} {Q : α → Store → Prop} {E : Exc → Store → Prop} {P : RS → Prop} {F : Fr} {C : Store}
theorem w_ok {a : α} (h : Q a C) : wR (.ok a C) Q E := ⟨h⟩
theorem w_exc {e : Exc} (h : E e C) : wR (.exc e C) Q E := ⟨h⟩
theorem w_of {r : R α} {a : α} {C' : Store} (e : r = .ok a C') (h : Q a C') : wR r Q E := by rw [e]; exact ⟨h⟩
theorem w_mono {r : R α} {Q' : α → Store → Prop} {E' : Exc → Store → Prop} (h : wR r Q' E') (q : ∀ a C, Q' a C → Q a C) (x : ∀ a C, E' a C → E a C) : wR r Q E := by
  cases r with
  | ok a C => exact ⟨q a C h.h⟩
  | exc e C => exact ⟨x e C h.h⟩
  | stuck => exact ⟨h.h⟩
theorem w_eqv {r : R α} {a : α} {C : Store} (h : wR r (fun d C' => d = a ∧ C' = C) noX) : r = .ok a C := by
  cases r with
  | ok a C => obtain ⟨h1, h2⟩ := h.h; rw [h1, h2]
  | exc e C => exact h.h.elim
  | stuck => exact h.h.elim
theorem w_out {r : R α} (h : wR r Q noX) : ∃ a C, r = .ok a C ∧ Q a C := by
  cases r with
  | ok a C => exact ⟨a, C, rfl, h.h⟩
  | exc e C => exact h.h.elim
  | stuck => exact h.h.elim
theorem w_bnd {m : R α} {f : α → Store → R β} {Q : β → Store → Prop} (h : wR m (fun a C => wR (f a C) Q E) E) : wR (bnd m f) Q E := by
  cases m with
  | ok a C => exact h.h
  | exc e C => exact ⟨h.h⟩
  | stuck => exact ⟨h.h⟩
theorem w_bndS {m : R α} {sl : List (Option D)} {f : α → Store → RS} (h : wR m (fun a C => wS (f a C) P) (fun e C => P (.xc e sl C))) : wS (bndS sl m f) P := by
  cases m with
  | ok a C => exact h.h
  | exc e C => exact ⟨h.h⟩
  | stuck => exact h.h.elim
theorem wo_of {o : Option (D × Store)} {d : D} {C' : Store} {Q : D → Store → Prop} (e : o = some (d, C')) (h : Q d C') : wO o Q := ⟨d, C', e, h⟩
theorem w_ofO {o : Option (D × Store)} {Q : D → Store → Prop} (h : wO o Q) : wR (ofO o) Q E := by
  obtain ⟨d, C', e, q⟩ := h.h
  rw [e]
  exact ⟨q⟩
theorem gR {r : R α} (h : wR r Q E) : wR r Q E := h
theorem gO {o : Option (D × Store)} {Q : D → Store → Prop} (h : wO o Q) : wO o Q := h
theorem gS {r : RS} (h : wS r P) : wS r P := h
theorem gI {b : Bool} {p q : Prop} (h : wI b p q) : wI b p q := h
theorem wI_t {p q : Prop} (h : p) : wI true p q := ⟨h⟩
theorem wI_f {p q : Prop} (h : q) : wI false p q := ⟨h⟩
theorem wI_d {b : Prop} [Decidable b] {p q : Prop} (h : b → p) (g : ¬ b → q) : wI (decide b) p q := by
  by_cases hb : b
  · rw [decide_eq_true hb]; exact ⟨h hb⟩
  · rw [decide_eq_false hb]; exact ⟨g hb⟩
theorem wI_dt {b : Prop} [Decidable b] {p q : Prop} (hb : b) (h : p) : wI (decide b) p q := by rw [decide_eq_true hb]; exact ⟨h⟩
theorem wI_df {b : Prop} [Decidable b] {p q : Prop} (hb : ¬ b) (h : q) : wI (decide b) p q := by rw [decide_eq_false hb]; exact ⟨h⟩
theorem wI_not {b : Bool} {p q : Prop} (h : wI b q p) : wI (!b) p q := by cases b <;> exact ⟨h.h⟩
end
/-! ### expressions -/
section
variable {Q : D → Store → Prop} {E : Exc → Store → Prop} {F : Fr} {C : Store}
theorem w_var {i : Nat} {fl : Nat} {sl : List (Option D)} {d : D} (e : sl[i]? = some (some d)) (h : Q d C) : wR (mVar i ⟨fl, sl⟩ C) Q E := by
  refine w_of (a := d) (C' := C) ?_ h
  show (match sl[i]? with
    | some (some d) => R.ok d C
    | _ => R.stuck) = _
  rw [e]
theorem w_c {d : D} (h : Q d C) : wR (mC d F C) Q E := ⟨h⟩
theorem w_op {o : O2} {a b : ME} (h : wR (a F C) (fun x C1 => wR (b F C1) (fun y C2 => wO (o x y C2) Q) E) E) : wR (mOp o a b F C) Q E :=
  w_bnd (w_mono h (fun _ _ g => w_bnd (w_mono g (fun _ _ g => w_ofO g) fun _ _ z => z)) fun _ _ z => z)
theorem w_un {o : O1} {a : ME} (h : wR (a F C) (fun x C1 => wO (o x C1) Q) E) : wR (mUn o a F C) Q E :=
  w_bnd (w_mono h (fun _ _ g => w_ofO g) fun _ _ z => z)
theorem w_ap {o : OA} {a : MA} (h : wR (a F C) (fun x C1 => wO (o x C1) Q) E) : wR (mAp o a F C) Q E :=
  w_bnd (w_mono h (fun _ _ g => w_ofO g) fun _ _ z => z)
theorem w_nil {Q : List D → Store → Prop} (h : Q [] C) : wR (mNil F C) Q E := ⟨h⟩
theorem w_cons {a : ME} {r : MA} {Q : List D → Store → Prop} (h : wR (a F C) (fun x C1 => wR (r F C1) (fun xs C2 => Q (x :: xs) C2) E) E) : wR (mCons a r F C) Q E :=
  w_bnd (w_mono h (fun _ _ g => w_bnd (w_mono g (fun _ _ g => w_ok g) fun _ _ z => z)) fun _ _ z => z)
theorem w_call {m : MF} {dds : List D} {a : MA} (h : wR (a F C) (fun xs C1 => wR (m (xs ++ dds) C1) Q E) E) : wR (mCall m dds a F C) Q E := w_bnd h
theorem w_tst {a : ME} {Q : Bool → Store → Prop} (h : wR (a F C) (fun d C1 => ∃ b, d = .bl b ∧ Q b C1) E) : wR (mTst a F C) Q E :=
  w_bnd (w_mono h (fun d C1 g => by obtain ⟨b, rfl, q⟩ := g; exact w_ok q) fun _ _ z => z)
theorem w_bl {b : Bool} {q : Bool → Prop} (h : q b) : ∃ b', D.bl b = .bl b' ∧ q b' := ⟨b, rfl, h⟩
theorem w_tand {a b : MT} {Q : Bool → Store → Prop} (h : wR (a F C) (fun x C1 => wI x (wR (b F C1) Q E) (Q false C1)) E) : wR (tAndM a b F C) Q E :=
  w_bnd (w_mono h (fun x C1 g => by
    cases x
    · exact w_ok g.h
    · exact g.h) fun _ _ z => z)
theorem w_tor {a b : MT} {Q : Bool → Store → Prop} (h : wR (a F C) (fun x C1 => wI x (Q true C1) (wR (b F C1) Q E)) E) : wR (tOrM a b F C) Q E :=
  w_bnd (w_mono h (fun x C1 g => by
    cases x
    · exact g.h
    · exact w_ok g.h) fun _ _ z => z)
theorem w_tnot {a : MT} {Q : Bool → Store → Prop} (h : wR (a F C) (fun x C1 => Q (!x) C1) E) : wR (tNotM a F C) Q E := w_bnd (w_mono h (fun _ _ g => w_ok g) fun _ _ z => z)
theorem w_yes {Q : Bool → Store → Prop} (h : Q true C) : wR (tYesM F C) Q E := ⟨h⟩
theorem w_and {a b : ME} (h : wR (a F C) (fun d C1 => ∃ x, d = .bl x ∧ wI x (wR (b F C1) Q E) (Q (.bl false) C1)) E) : wR (mAnd a b F C) Q E :=
  w_bnd (w_mono h (fun d C1 g => by
    obtain ⟨x, rfl, q⟩ := g
    cases x
    · exact w_ok q.h
    · exact q.h) fun _ _ z => z)
theorem w_or {a b : ME} (h : wR (a F C) (fun d C1 => ∃ x, d = .bl x ∧ wI x (Q (.bl true) C1) (wR (b F C1) Q E)) E) : wR (mOr a b F C) Q E :=
  w_bnd (w_mono h (fun d C1 g => by
    obtain ⟨x, rfl, q⟩ := g
    cases x
    · exact q.h
    · exact w_ok q.h) fun _ _ z => z)
theorem w_not {a : ME} (h : wR (a F C) (fun d C1 => ∃ x, d = .bl x ∧ Q (.bl (!x)) C1) E) : wR (mNot a F C) Q E :=
  w_bnd (w_mono h (fun d C1 g => by obtain ⟨x, rfl, q⟩ := g; exact w_ok q) fun _ _ z => z)
theorem w_if {t : MT} {a b : ME} (h : wR (t F C) (fun x C1 => wI x (wR (a F C1) Q E) (wR (b F C1) Q E)) E) : wR (mIf t a b F C) Q E :=
  w_bnd (w_mono h (fun x C1 g => by cases x <;> exact g.h) fun _ _ z => z)
theorem w_chain {o o' : O2} {a b c : ME} (h : wR (a F C) (fun x C1 => wR (b F C1) (fun y C2 => wO (o x y C2) fun z C3 => ∃ t, z = .bl t ∧ wI t (wR (c F C3) (fun w C4 => wO (o' y w C4) Q) E) (Q (.bl false) C3)) E) E) : wR (mChain o o' a b c F C) Q E :=
  w_bnd (w_mono h (fun x C1 g => w_bnd (w_mono g (fun y C2 g => w_bnd (w_ofO (by
    obtain ⟨d, C3, e, t, rfl, q⟩ := g.h
    refine wo_of e ?_
    cases t
    · exact w_ok q.h
    · exact w_bnd (w_mono q.h (fun _ _ g => w_ofO g) fun _ _ z => z)))) fun _ _ z => z)) fun _ _ z => z)
theorem w_prop {c : Nat} {m : MF} {mo : ME} (h : wR (mo F C) (fun d C1 => ∃ fs, d = .obj c fs ∧ wR (m [d] C1) Q noX) E) : wR (mProp c m mo F C) Q E :=
  w_bnd (w_mono h (fun d C1 g => by
    obtain ⟨fs, rfl, q⟩ := g
    show wR (if c = c then (match m [.obj c fs] C1 with
      | .ok d C2 => R.ok d C2
      | _ => R.stuck) else R.stuck) Q E
    rw [if_pos rfl]
    obtain ⟨a, C2, e, q⟩ := w_out q
    rw [e]
    exact w_ok q) fun _ _ z => z)
theorem w_meth {c : Nat} {m : MF} {dds : List D} {mo : ME} {a : MA} (h : wR (mo F C) (fun d C1 => ∃ fs, d = .obj c fs ∧ wR (a F C1) (fun xs C2 => wR (m (d :: (xs ++ dds)) C2) Q E) E) E) : wR (mMeth c m dds mo a F C) Q E :=
  w_bnd (w_mono h (fun d C1 g => by
    obtain ⟨fs, rfl, q⟩ := g
    simp only [vO, if_true]
    exact w_bnd q) fun _ _ z => z)
theorem w_obj {c : Nat} {fs : List D} {q : Prop} (h : q) : ∃ gs, D.obj c fs = .obj c gs ∧ q := ⟨fs, rfl, h⟩
theorem w_dget {a b c : ME} (h : wR (a F C) (fun x C1 => (vD x C1).isSome = true ∧ wR (b F C1) (fun y C2 => wR (c F C2) (fun z C3 => wO (oDGet x y z C3) Q) E) E) E) : wR (mDGet a b c F C) Q E :=
  w_bnd (w_mono h (fun x C1 g => by
    rw [if_pos g.1]
    exact w_bnd (w_mono g.2 (fun _ _ g => w_bnd (w_mono g (fun _ _ g => w_ofO g) fun _ _ z => z)) fun _ _ z => z)) fun _ _ z => z)
theorem w_isi {kn : List Nat} {t : Cc} {m : ME} (h : wR (m F C) (fun d C1 => ∃ b, isi kn d C1 t = some b ∧ Q (.bl b) C1) E) : wR (mIsi kn t m F C) Q E :=
  w_bnd (w_mono h (fun d C1 g => by obtain ⟨b, e, q⟩ := g; rw [e]; exact w_ok q) fun _ _ z => z)
theorem w_isi2 {kn : List Nat} {t u : Cc} {m : ME} (h : wR (m F C) (fun d C1 => ∃ b b', isi kn d C1 t = some b ∧ isi kn d C1 u = some b' ∧ Q (.bl (b || b')) C1) E) : wR (mIsi2 kn t u m F C) Q E :=
  w_bnd (w_mono h (fun d C1 g => by obtain ⟨b, b', e, e', q⟩ := g; rw [e, e']; exact w_ok q) fun _ _ z => z)
theorem w_part {m : ME} {Q : Option Int → Store → Prop} (h : wR (m F C) (fun d C1 => ∃ i, d = .int i ∧ Q (some i) C1) E) : wR (mPart m F C) Q E :=
  w_bnd (w_mono h (fun d C1 g => by obtain ⟨b, rfl, q⟩ := g; exact w_ok q) fun _ _ z => z)
theorem w_noPart {Q : Option Int → Store → Prop} (h : Q none C) : wR (mNoPart F C) Q E := ⟨h⟩
theorem w_slL {own : Bool} {a : ME} {l u : Fr → Store → R (Option Int)} (h : wR (a F C) (fun x C1 => wR (l F C1) (fun lo C2 => wR (u F C2) (fun hi C3 => ∃ xs, vLs x C3 = some xs ∧ Q (mkL own (cutD xs lo hi) C3).1 (mkL own (cutD xs lo hi) C3).2) E) E) E) : wR (mSlL own a l u F C) Q E :=
  w_bnd (w_mono h (fun _ _ g => w_bnd (w_mono g (fun _ _ g => w_bnd (w_mono g (fun _ _ g => by obtain ⟨xs, e, q⟩ := g; simp only [e]; exact w_ok q) fun _ _ z => z)) fun _ _ z => z)) fun _ _ z => z)
theorem w_slA {a : ME} {l u : Fr → Store → R (Option Int)} (h : wR (a F C) (fun x C1 => wR (l F C1) (fun lo C2 => wR (u F C2) (fun hi C3 => ∃ xs, x = .tup xs ∧ Q (.tup (cutD xs lo hi)) C3) E) E) E) : wR (mSlA a l u F C) Q E :=
  w_bnd (w_mono h (fun _ _ g => w_bnd (w_mono g (fun lo _ g => w_bnd (w_mono g (fun hi _ g => by
    obtain ⟨xs, rfl, q⟩ := g
    simp only [vT]
    split
    · rename_i hh
      have e : cutD xs lo hi = xs := by
        unfold cutD
        rw [hh.1, hh.2]
        simp
      rw [e] at q
      exact w_ok q
    · exact w_ok q) fun _ _ z => z)) fun _ _ z => z)) fun _ _ z => z)
theorem w_int {i : Int} {q : Int → Prop} (h : q i) : ∃ j, D.int i = .int j ∧ q j := ⟨i, rfl, h⟩
end
/-! ### operators -/
section
variable {Q : D → Store → Prop} {C : Store}
theorem wo_add {a b : Int} (h : Q (.int (a + b)) C) : wO (oAdd (.int a) (.int b) C) Q := wo_of rfl h
theorem wo_sub {a b : Int} (h : Q (.int (a - b)) C) : wO (oSub (.int a) (.int b) C) Q := wo_of rfl h
theorem wo_neg {a : Int} (h : Q (.int (-a)) C) : wO (oNeg (.int a) C) Q := wo_of rfl h
theorem wo_lt {a b : Int} (h : Q (.bl (decide (a < b))) C) : wO (oLt (.int a) (.int b) C) Q := wo_of rfl h
theorem wo_le {a b : Int} (h : Q (.bl (decide (a ≤ b))) C) : wO (oLe (.int a) (.int b) C) Q := wo_of rfl h
theorem wo_gt {a b : Int} (h : Q (.bl (decide (b < a))) C) : wO (oGt (.int a) (.int b) C) Q := wo_of rfl h
theorem wo_ge {a b : Int} (h : Q (.bl (decide (b ≤ a))) C) : wO (oGe (.int a) (.int b) C) Q := wo_of rfl h
theorem wo_eq {a b : Int} (h : Q (.bl (decide (a = b))) C) : wO (oEqA false (.int a) (.int b) C) Q := wo_of rfl h
theorem wo_ne {a b : Int} (h : Q (.bl (!decide (a = b))) C) : wO (oEqA true (.int a) (.int b) C) Q := wo_of rfl h
theorem wo_eqS {a b : Str} (h : Q (.bl (decide (a = b))) C) : wO (oEqA false (.str a) (.str b) C) Q := wo_of rfl h
theorem wo_neS {a b : Str} (h : Q (.bl (!decide (a = b))) C) : wO (oEqA true (.str a) (.str b) C) Q := wo_of rfl h
theorem wo_mul {a b : Int} (e : cMul a b = true) (h : Q (.int (a * b)) C) : wO (oMul (.int a) (.int b) C) Q := wo_of (ev_mul C e) h
theorem wo_mod {a b : Int} (e : 0 < b) (h : Q (.int (a % b)) C) : wO (oMod (.int a) (.int b) C) Q := wo_of (ev_mod C e) h
theorem wo_div {a b : Int} (e : 0 < b) (e2 : b < 4611686018427387904) (h : Q (.int (a / b)) C) : wO (oDiv (.int a) (.int b) C) Q := wo_of (ev_div C e e2) h
theorem wo_min {a b : Int} (h : Q (.int (min a b)) C) : wO (oMin2 [.int a, .int b] C) Q := wo_of (ev_min C a b) h
theorem wo_max {a b : Int} (h : Q (.int (max a b)) C) : wO (oMax2 [.int a, .int b] C) Q := wo_of (ev_max C a b) h
theorem wo_int {a : Int} (h : Q (.int a) C) : wO (oInt [.int a] C) Q := wo_of rfl h
theorem wo_abs {a : Int} (h : Q (.int (a.natAbs : Int)) C) : wO (oAbs [.int a] C) Q := wo_of (ev_abs C a) h
theorem wo_lst {own : Bool} {xs : List D} (e : szN xs.length = true) (h : Q (mkL own xs C).1 (mkL own xs C).2) : wO (oLst own xs C) Q := by
  refine wo_of ?_ h
  unfold oLst
  rw [if_pos e]
theorem wo_lstF {xs : List D} (e : szN xs.length = true) (h : Q (.lst xs) C) : wO (oLst false xs C) Q := wo_lst e h
theorem wo_lstT {xs : List D} (e : szN xs.length = true) (h : Q (.cell C.length) (C ++ [some (.lst xs)])) : wO (oLst true xs C) Q := wo_lst e h
theorem w_dnewF {E : Exc → Store → Prop} {F : Fr} (h : Q (.dT [] []) C) : wR (mDNew false F C) Q E := ⟨h⟩
theorem w_dnewT {E : Exc → Store → Prop} {F : Fr} (h : Q (.cell C.length) (C ++ [some (.dT [] [])])) : wR (mDNew true F C) Q E := ⟨h⟩
theorem w_slLF {E : Exc → Store → Prop} {F : Fr} {a : ME} {l u : Fr → Store → R (Option Int)} (h : wR (a F C) (fun x C1 => wR (l F C1) (fun lo C2 => wR (u F C2) (fun hi C3 => ∃ xs, vLs x C3 = some xs ∧ Q (.lst (cutD xs lo hi)) C3) E) E) E) : wR (mSlL false a l u F C) Q E := w_slL h
theorem wo_tup {xs : List D} (e : szN xs.length = true) (h : Q (.tup xs) C) : wO (oTup xs C) Q := by
  refine wo_of ?_ h
  unfold oTup
  rw [if_pos e]
theorem wo_fld {c n : Nat} {fs : List D} {d : D} (e : fs[n]? = some d) (h : Q d C) : wO (oFld c n (.obj c fs) C) Q := by
  refine wo_of ?_ h
  rw [ev_fld, e]
  rfl
theorem wo_ix {x : D} {xs : List D} {i : Int} {k : Nat} {d : D} (e : vS x C = some xs) (hi : i = k) (hk : xs[k]? = some d) (h : Q d C) : wO (oIx x (.int i) C) Q := by
  subst hi
  have hl : k < xs.length := (List.getElem?_eq_some_iff.mp hk).1
  have e2 : atI xs (k : Int) = some d := by
    unfold atI ixN
    have h0 : (0 : Int) ≤ k := by omega
    simp [hl]
    exact (List.getElem?_eq_some_iff.mp hk).2
  refine wo_of (d := d) (C' := C) ?_ h
  unfold oIx
  rw [e]
  simp only [Option.bind_some, e2, Option.map_some]
end
/-! ### statements -/
def thn (b : MS) (fl : Nat) (P : RS → Prop) : RS → Prop := fun r => match r with
  | .nx sl C => wS (b ⟨fl, sl⟩ C) P
  | r => P r
section
variable {P : RS → Prop} {F : Fr} {C : Store} {E : Exc → Store → Prop}
theorem w_seq {a b : MS} {fl : Nat} {sl : List (Option D)} (h : wS (a ⟨fl, sl⟩ C) (thn b fl P)) : wS (sSeq a b ⟨fl, sl⟩ C) P := by
  have h := h.h
  unfold sSeq
  cases e : a ⟨fl, sl⟩ C with
  | nx sl C1 => rw [e] at h; exact h
  | rt d C1 => rw [e] at h; exact ⟨h⟩
  | bk d C1 => rw [e] at h; exact ⟨h⟩
  | ct d C1 => rw [e] at h; exact ⟨h⟩
  | xc x d C1 => rw [e] at h; exact ⟨h⟩
  | stuck => rw [e] at h; exact ⟨h⟩
theorem thn_nx {b : MS} {fl : Nat} {sl : List (Option D)} (h : wS (b ⟨fl, sl⟩ C) P) : thn b fl P (.nx sl C) := h
theorem thn_rt {b : MS} {fl : Nat} {d : D} (h : P (.rt d C)) : thn b fl P (.rt d C) := h
theorem thn_bk {b : MS} {fl : Nat} {sl : List (Option D)} (h : P (.bk sl C)) : thn b fl P (.bk sl C) := h
theorem thn_ct {b : MS} {fl : Nat} {sl : List (Option D)} (h : P (.ct sl C)) : thn b fl P (.ct sl C) := h
theorem thn_xc {b : MS} {fl : Nat} {e : Exc} {sl : List (Option D)} (h : P (.xc e sl C)) : thn b fl P (.xc e sl C) := h
theorem w_next {fl : Nat} {sl : List (Option D)} (h : P (.nx sl C)) : wS (sNext ⟨fl, sl⟩ C) P := ⟨h⟩
theorem w_brk {fl : Nat} {sl : List (Option D)} (h : P (.bk sl C)) : wS (sBrk ⟨fl, sl⟩ C) P := ⟨h⟩
theorem w_cnt {fl : Nat} {sl : List (Option D)} (h : P (.ct sl C)) : wS (sCnt ⟨fl, sl⟩ C) P := ⟨h⟩
theorem w_drop {m : ME} {fl : Nat} {sl : List (Option D)} (h : wR (m ⟨fl, sl⟩ C) (fun _ C1 => P (.nx sl C1)) (fun e C1 => P (.xc e sl C1))) : wS (sDrop m ⟨fl, sl⟩ C) P := w_bndS (w_mono h (fun _ _ g => ⟨g⟩) fun _ _ z => z)
theorem w_ret {m : ME} {fl : Nat} {sl : List (Option D)} (h : wR (m ⟨fl, sl⟩ C) (fun d C1 => P (.rt d C1)) (fun e C1 => P (.xc e sl C1))) : wS (sRet m ⟨fl, sl⟩ C) P := w_bndS (w_mono h (fun _ _ g => ⟨g⟩) fun _ _ z => z)
theorem w_retN (h : P (.rt .non C)) : wS (sRetN F C) P := ⟨h⟩
theorem w_sif {t : MT} {a b : MS} {fl : Nat} {sl : List (Option D)} (h : wR (t ⟨fl, sl⟩ C) (fun x C1 => wI x (wS (a ⟨fl, sl⟩ C1) P) (wS (b ⟨fl, sl⟩ C1) P)) (fun e C1 => P (.xc e sl C1))) : wS (sIf t a b ⟨fl, sl⟩ C) P :=
  w_bndS (w_mono h (fun x C1 g => by cases x <;> exact g.h) fun _ _ z => z)
theorem w_asg {m : ME} {i fl : Nat} {sl : List (Option D)} (h : wR (m ⟨fl, sl⟩ C) (fun d C1 => P (.nx (sl.set i (some d)) C1)) (fun e C1 => P (.xc e sl C1))) : wS (sAsg m (gN i) ⟨fl, sl⟩ C) P := w_bndS (w_mono h (fun _ _ g => ⟨g⟩) fun _ _ z => z)
theorem w_asgT {m : ME} {is : List Nat} {fl : Nat} {sl : List (Option D)} (h : wR (m ⟨fl, sl⟩ C) (fun d C1 => ∃ ds sl', d = .tup ds ∧ setAll is ds sl = some sl' ∧ P (.nx sl' C1)) (fun e C1 => P (.xc e sl C1))) : wS (sAsg m (gT is) ⟨fl, sl⟩ C) P :=
  w_bndS (w_mono h (fun x C1 g => by obtain ⟨ds, sl', rfl, e, q⟩ := g; show wS (asgS (setAll is ds sl) C1) P; rw [e]; exact ⟨q⟩) fun _ _ z => z)
theorem w_par {m : MA} {is : List Nat} {fl : Nat} {sl : List (Option D)} (h : wR (m ⟨fl, sl⟩ C) (fun ds C1 => ∃ sl', setAll is ds sl = some sl' ∧ P (.nx sl' C1)) (fun e C1 => P (.xc e sl C1))) : wS (sPar is m ⟨fl, sl⟩ C) P :=
  w_bndS (w_mono h (fun x C1 g => by obtain ⟨sl', e, q⟩ := g; show wS (asgS (setAll is x sl) C1) P; rw [e]; exact ⟨q⟩) fun _ _ z => z)
theorem w_raise {c n : Nat} {ma : MA} {fl : Nat} {sl : List (Option D)} (h : wR (ma ⟨fl, sl⟩ C) (fun ds C1 => ds.length = n ∧ P (.xc ⟨c, ds.reverse⟩ sl C1)) (fun e C1 => P (.xc e sl C1))) : wS (sRaise c n ma ⟨fl, sl⟩ C) P :=
  w_bndS (w_mono h (fun x C1 g => by rw [if_pos g.1]; exact ⟨g.2⟩) fun _ _ z => z)
/-- what stands behind a def's body -/
def fnl (n : Nat) (Q : D → Store → Prop) (E : Exc → Store → Prop) : RS → Prop := fun r => wR (finS n r) Q E
theorem w_fin {n : Nat} {r : RS} {Q : D → Store → Prop} (h : wS r (fnl n Q E)) : wR (finS n r) Q E := h.h
theorem fnl_int {n : Nat} {Q : D → Store → Prop} {i : Int} (h : Q (.int i) (C.take n)) : fnl n Q E (.rt (.int i) C) := w_ok h
theorem fnl_bl {n : Nat} {Q : D → Store → Prop} {i : Bool} (h : Q (.bl i) (C.take n)) : fnl n Q E (.rt (.bl i) C) := w_ok h
theorem fnl_non {n : Nat} {Q : D → Store → Prop} (h : Q .non (C.take n)) : fnl n Q E (.rt .non C) := w_ok h
theorem fnl_str {n : Nat} {Q : D → Store → Prop} {i : Str} (h : Q (.str i) (C.take n)) : fnl n Q E (.rt (.str i) C) := w_ok h
theorem fnl_nx {n : Nat} {Q : D → Store → Prop} {sl : List (Option D)} (h : Q .non (C.take n)) : fnl n Q E (.nx sl C) := w_ok h
theorem fnl_d {n : Nat} {Q : D → Store → Prop} {d : D} (e : ∀ i, d ≠ .cell i) (hc : cb n d = true) (h : Q d (C.take n)) : fnl n Q E (.rt d C) := by
  have z : fz n d C = d := by
    unfold fz
    split
    · exact absurd rfl (e _)
    · rfl
  show wR (fin n d C) Q E
  unfold fin
  rw [z, if_pos hc]
  exact w_ok h
theorem fnl_xc {n : Nat} {Q : D → Store → Prop} {x : Exc} {sl : List (Option D)} (hc : cbL n x.fs = true) (h : E x (C.take n)) : fnl n Q E (.xc x sl C) := by
  show wR (if cbL n x.fs = true then R.exc x (C.take n) else R.stuck) Q E
  rw [if_pos hc]
  exact w_exc h
end
/-! ### loops -/
def lpP (I : Nat → List (Option D) → Store → Prop) (j : Nat) (P : RS → Prop) : RS → Prop := fun r => match r with
  | .nx sl C => I j sl C
  | .ct sl C => I j sl C
  | .bk sl C => P (.nx sl C)
  | .rt d C => P (.rt d C)
  | .xc e sl C => P (.xc e sl C)
  | .stuck => False
theorem lp_nx {I : Nat → List (Option D) → Store → Prop} {j : Nat} {P : RS → Prop} {sl : List (Option D)} {C : Store} (h : I j sl C) : lpP I j P (.nx sl C) := h
theorem lp_rt {I : Nat → List (Option D) → Store → Prop} {j : Nat} {P : RS → Prop} {d : D} {C : Store} (h : P (.rt d C)) : lpP I j P (.rt d C) := h
theorem lp_bk {I : Nat → List (Option D) → Store → Prop} {j : Nat} {P : RS → Prop} {sl : List (Option D)} {C : Store} (h : P (.nx sl C)) : lpP I j P (.bk sl C) := h
theorem lp_xc {I : Nat → List (Option D) → Store → Prop} {j : Nat} {P : RS → Prop} {e : Exc} {sl : List (Option D)} {C : Store} (h : P (.xc e sl C)) : lpP I j P (.xc e sl C) := h
theorem loop_w {S : Store → Prop} {it : ItD} {xs : List D} (p : ItOn S it xs) {g : MG} {body : MS} {fl : Nat} {P : RS → Prop} (I : Nat → List (Option D) → Store → Prop) (hS : ∀ j sl C, I j sl C → S C)
    (step : ∀ j x sl C, xs[j]? = some x → I j sl C → ∃ sl1, g x sl = some sl1 ∧ wS (body ⟨fl, sl1⟩ C) (lpP I (j + 1) P)) (fin : ∀ sl C, I xs.length sl C → P (.nx sl C)) :
    ∀ r j sl C, r + j = xs.length → I j sl C → wS (loopN it g body fl r j sl C) P
  | 0, j, sl, C, h, i => by
    have e : j = xs.length := by omega
    subst e
    unfold loopN
    rw [if_pos (p.fin C (hS _ _ _ i))]
    exact ⟨fin sl C i⟩
  | r + 1, j, sl, C, h, i => by
    have hj : j < xs.length := by omega
    obtain ⟨sl1, h1, h2⟩ := step j xs[j] sl C (List.getElem?_eq_getElem hj) i
    unfold loopN
    rw [p.item j C (hS _ _ _ i) hj, List.getElem?_eq_getElem hj]
    simp only [h1]
    have h2 := h2.h
    unfold lpP at h2
    cases e : body ⟨fl, sl1⟩ C with
    | nx sl2 C2 => rw [e] at h2; exact loop_w p I hS step fin r (j + 1) sl2 C2 (by omega) h2
    | ct sl2 C2 => rw [e] at h2; exact loop_w p I hS step fin r (j + 1) sl2 C2 (by omega) h2
    | bk sl2 C2 => rw [e] at h2; exact ⟨h2⟩
    | rt d C2 => rw [e] at h2; exact ⟨h2⟩
    | xc x sl2 C2 => rw [e] at h2; exact ⟨h2⟩
    | stuck => rw [e] at h2; exact h2.elim
/-! ### comprehensions -/
theorem lc_w {S : Store → Prop} {it : ItD} {xs : List D} (p : ItOn S it xs) {g : MG} {tt : MT} {te : ME} {n : Nat} {sl : List (Option D)} (J : Nat → List D → Store → Prop) (hS : ∀ j acc C, J j acc C → S C) (hz : ∀ j acc C, J j acc C → acc.length < 16777216)
    (step : ∀ j x acc C, xs[j]? = some x → C[n]? = some (some (.lst acc)) → J j acc C → ∃ sl1, g x sl = some sl1 ∧ wR (tt ⟨n, sl1⟩ C) (fun b C1 => wI b (wR (te ⟨n, sl1⟩ C1) (fun y C2 => ∃ acc', C2[n]? = some (some (.lst acc')) ∧ acc'.length < 16777216 ∧ J (j + 1) (acc' ++ [y]) (C2.set n (some (.lst (acc' ++ [y])))) ∧ n < C2.length) noX) (∃ acc', C1[n]? = some (some (.lst acc')) ∧ J (j + 1) acc' C1)) noX) :
    ∀ r j acc C, r + j = xs.length → C[n]? = some (some (.lst acc)) → J j acc C → ∃ acc' C', lcN it g tt te n sl r j C = .ok () C' ∧ C'[n]? = some (some (.lst acc')) ∧ J xs.length acc' C'
  | 0, j, acc, C, h, c, i => by
    have e : j = xs.length := by omega
    subst e
    unfold lcN
    rw [if_pos (p.fin C (hS _ _ _ i))]
    exact ⟨acc, C, rfl, c, i⟩
  | r + 1, j, acc, C, h, c, i => by
    have hj : j < xs.length := by omega
    obtain ⟨sl1, h1, h2⟩ := step j xs[j] acc C (List.getElem?_eq_getElem hj) c i
    unfold lcN
    rw [p.item j C (hS _ _ _ i) hj, List.getElem?_eq_getElem hj]
    simp only [h1]
    obtain ⟨b, C1, e1, h3⟩ := w_out h2
    rw [e1]
    simp only [bn0_ok]
    cases b with
    | false =>
      obtain ⟨acc', c1, i1⟩ := h3.h
      rw [if_neg (by decide)]
      exact lc_w p J hS hz step r (j + 1) acc' C1 (by omega) c1 i1
    | true =>
      obtain ⟨y, C2, e2, acc', c2, z, i2, hn⟩ := w_out h3.h
      rw [if_pos rfl, e2]
      simp only [bn0_ok]
      rw [c2]
      have hs : szN (acc'.length + 1) = true := by simp only [szN, decide_eq_true_eq]; omega
      simp only [hs, if_true]
      exact lc_w p J hS hz step r (j + 1) (acc' ++ [y]) _ (by omega) (List.getElem?_set_self hn) i2
end CT
set_option maxHeartbeats 4000000
/-! E5: more steps told backwards. -/
namespace CT
open PySem L2
abbrev accS (C : Store) (acc : List D) : Store := C ++ [some (.lst acc)]
/-- [e for t in it if c], nothing changed -/
theorem w_lcP {mi : MI} {it : ItD} {xs : List D} {g : MG} {tt : MT} {te : ME} {vs : List Nat} {F : Fr} {C : Store} {Q : D → Store → Prop} {E : Exc → Store → Prop} (hi : mi F C = .ok it C) (p : PureIt it xs) (f : D → Bool) (h : D → D) (sz : xs.length ≤ 16777215)
    (st : ∀ x ∈ xs, ∃ sl1, g x (wipeD F.sl vs) = some sl1 ∧ ∀ acc, wR (tt ⟨C.length, sl1⟩ (accS C acc)) (fun b C' => b = f x ∧ C' = accS C acc) noX ∧ (f x = true → wR (te ⟨C.length, sl1⟩ (accS C acc)) (fun d C' => d = h x ∧ C' = accS C acc) noX))
    (hc : ∀ x ∈ xs, f x = true → cb C.length (h x) = true) (q : Q (.lst ((xs.filter f).map h)) C) : wR (mLc false mi g tt te vs F C) Q E := by
  refine w_of (ev_lc p f h hi sz (fun x hx => ?_) hc) q
  obtain ⟨sl1, h1, h2⟩ := st x hx
  refine ⟨sl1, h1, fun acc => ⟨?_, fun hf => ?_⟩⟩
  · obtain ⟨b, C', e, rfl, rfl⟩ := w_out (h2 acc).1
    exact e
  · obtain ⟨b, C', e, rfl, rfl⟩ := w_out ((h2 acc).2 hf)
    exact e
theorem fnl_p {n : Nat} {Q : D → Store → Prop} {E : Exc → Store → Prop} {d : D} {C : Store} (hc : cb 0 d = true) (h : Q d (C.take n)) : fnl n Q E (.rt d C) :=
  fnl_d (fun i e => by subst e; simp [cb] at hc) (cb_mono (Nat.zero_le _) hc) h
theorem w_mkT {Q : D → Store → Prop} {E : Exc → Store → Prop} {F : Fr} {C : Store} {own : Bool} {c nf : Nat} {m : MF} {dds : List D} {a : MA} (h : wR (a F C) (fun ds C1 => wR (mMake own c nf m dds (fun _ _ => .ok ds C1) F C1) Q E) E) : wR (mMake own c nf m dds a F C) Q E := by
  unfold mMake at h ⊢
  exact w_bnd h
theorem wo_tupL {xs : List D} {C : Store} {Q : D → Store → Prop} (h : Q (.tup xs) C) : wO (oTupOf [.lst xs] C) Q := wo_of rfl h
theorem wo_tupT {xs : List D} {C : Store} {Q : D → Store → Prop} (h : Q (.tup xs) C) : wO (oTupOf [.tup xs] C) Q := wo_of rfl h
theorem wo_catF {xs ys : List D} {C : Store} {Q : D → Store → Prop} (e : xs.length + ys.length ≤ 16777216) (h : Q (.lst (xs ++ ys)) C) : wO (oCat false (.lst xs) (.lst ys) C) Q := wo_of (by simp [oCat, vL, szN, e, mkL]) h
theorem wo_listF {x : D} {xs : List D} {C : Store} {Q : D → Store → Prop} (e : vS x C = some xs) (h : Q (.lst xs) C) : wO (oListOf false [x] C) Q := wo_of (by simp [oListOf, e, mkL]) h
/-! ### writing -/
theorem w_setL {me mo mi : ME} {fl : Nat} {sl : List (Option D)} {C : Store} {P : RS → Prop} (h : wR (me ⟨fl, sl⟩ C) (fun v C1 => wR (mo ⟨fl, sl⟩ C1) (fun o C2 => wR (mi ⟨fl, sl⟩ C2) (fun x C3 => ∃ n i ds j C4, x = .int n ∧ cL o C3 = some (i, ds) ∧ ixN ds.length n = some j ∧ wr fl i (.lst (ds.set j v)) C3 = some C4 ∧ P (.nx sl C4)) (fun e C => P (.xc e sl C))) (fun e C => P (.xc e sl C))) (fun e C => P (.xc e sl C))) : wS (sSetL me mo mi ⟨fl, sl⟩ C) P :=
  w_bndS (w_mono h (fun v C1 g => w_bndS (w_mono g (fun o C2 g => w_bndS (w_mono g (fun x C3 g => by
    obtain ⟨n, i, ds, j, C4, rfl, e1, e2, e3, q⟩ := g
    simp only [e1, e2, e3]
    exact ⟨q⟩) fun _ _ z => z)) fun _ _ z => z)) fun _ _ z => z)
theorem wr_hi {fl i : Nat} {c : Cell} {C : Store} (h : fl ≤ i) : wr fl i c C = some (C.set i (some c)) := by
  unfold wr
  rw [if_neg (fun z => by omega)]
theorem ixN_at {n : Nat} {i : Int} (h0 : 0 ≤ i) (h1 : i < n) : ixN n i = some i.toNat := by
  unfold ixN
  rw [if_pos h0, if_pos h1]
theorem w_append {mo me : ME} {F : Fr} {C : Store} {Q : D → Store → Prop} {E : Exc → Store → Prop} (h : wR (mo F C) (fun o C1 => (vL o C1).isSome = true ∧ wR (me F C1) (fun v C2 => ∃ i ds, cL o C2 = some (i, ds) ∧ F.fl ≤ i ∧ ds.length < 16777216 ∧ Q .non (C2.set i (some (.lst (ds ++ [v]))))) E) E) : wR (mAppend mo me F C) Q E := by
  unfold mAppend
  refine w_bnd (w_mono h (fun o C1 g => ?_) fun _ _ z => z)
  rw [if_pos g.1]
  refine w_bnd (w_mono g.2 (fun v C2 g => ?_) fun _ _ z => z)
  obtain ⟨i, ds, e, hi, hz, q⟩ := g
  have hs : szN (ds.length + 1) = true := by simp only [szN, decide_eq_true_eq]; omega
  simp only [e, hs, if_true, wr_hi hi]
  exact w_ok q
end CT
set_option maxHeartbeats 4000000
/-! E6: walks and comprehensions, step by step. -/
namespace CT
open PySem L2
section
variable {E : Exc → Store → Prop} {F : Fr} {C : Store} {P : RS → Prop}
theorem w_forI {mi : MI} {g : MG} {body : MS} {fl : Nat} {sl : List (Option D)} (h : wR (mi ⟨fl, sl⟩ C) (fun it C1 => wS (loopN it g body fl it.n 0 sl C1) P) (fun e C1 => P (.xc e sl C1))) : wS (sFor mi g body ⟨fl, sl⟩ C) P := w_bndS h
theorem w_seqI {m : ME} {Q : ItD → Store → Prop} (h : wR (m F C) (fun d C1 => ∃ it, itS d C1 = some it ∧ Q it C1) E) : wR (mSeq m F C) Q E :=
  w_bnd (w_mono h (fun d C1 g => by obtain ⟨it, e, q⟩ := g; simp only [e]; exact w_ok q) fun _ _ z => z)
theorem w_enum {m : ME} {Q : ItD → Store → Prop} (h : wR (m F C) (fun d C1 => ∃ it, itS d C1 = some it ∧ Q (prI it) C1) E) : wR (mEnum m F C) Q E :=
  w_bnd (w_mono h (fun d C1 g => by obtain ⟨it, e, q⟩ := g; simp only [e]; exact w_ok q) fun _ _ z => z)
theorem w_itL {xs : List D} {q : ItD → Prop} (h : q (itC xs)) : ∃ it, itS (.lst xs) C = some it ∧ q it := ⟨_, rfl, h⟩
theorem w_itT {xs : List D} {q : ItD → Prop} (h : q (itC xs)) : ∃ it, itS (.tup xs) C = some it ∧ q it := ⟨_, rfl, h⟩
theorem w_itK {xs : List D} {q : ItD → Prop} (h : q (itC xs)) : ∃ it, itS (.kt xs) C = some it ∧ q it := ⟨_, rfl, h⟩
theorem w_rng1 {m : ME} {Q : ItD → Store → Prop} (h : wR (m F C) (fun d C1 => ∃ j, d = .int j ∧ inR j = true ∧ Q (itR 0 j.toNat) C1) E) : wR (mRng1 m F C) Q E :=
  w_bnd (w_mono h (fun d C1 g => by obtain ⟨j, rfl, e, q⟩ := g; simp only [e, if_true]; exact w_ok q) fun _ _ z => z)
theorem w_rng2 {m m2 : ME} {Q : ItD → Store → Prop} (h : wR (m F C) (fun d C1 => wR (m2 F C1) (fun e C2 => ∃ i j, d = .int i ∧ e = .int j ∧ inR i = true ∧ inR j = true ∧ Q (itR i (j - i).toNat) C2) E) E) : wR (mRng2 m m2 F C) Q E :=
  w_bnd (w_mono h (fun d C1 g => w_bnd (w_mono g (fun e C2 g => by obtain ⟨i, j, rfl, rfl, e1, e2, q⟩ := g; simp only [e1, e2, Bool.and_self, if_true]; exact w_ok q) fun _ _ z => z)) fun _ _ z => z)
theorem inR_of {j : Int} (h : -1000000000000 ≤ j) (h2 : j ≤ 1000000000000) : inR j = true := by
  have e1 : decide (-(2 ^ 62) ≤ j) = true := decide_eq_true (by omega)
  have e2 : decide (j < 2 ^ 62) = true := decide_eq_true (by omega)
  simp only [inR, e1, e2, Bool.and_self]
theorem loop_p {it : ItD} {xs : List D} (p : PureIt it xs) {g : MG} {body : MS} {fl : Nat} {sl : List (Option D)} (I : Nat → List (Option D) → Store → Prop) (i0 : I 0 sl C)
    (step : ∀ j x sl C, xs[j]? = some x → I j sl C → ∃ sl1, g x sl = some sl1 ∧ wS (body ⟨fl, sl1⟩ C) (lpP I (j + 1) P)) (fin : ∀ sl C, I xs.length sl C → P (.nx sl C)) : wS (loopN it g body fl it.n 0 sl C) P :=
  loop_w (p.on fun _ => True) I (fun _ _ _ _ => trivial) step fin it.n 0 sl C (by rw [p.n]; omega) i0
def lcR (it : ItD) (g : MG) (tt : MT) (te : ME) (vs : List Nat) (F : Fr) (C1 : Store) : R D := mLc false (fun _ C => .ok it C) g tt te vs F C1
theorem w_lcI {mi : MI} {g : MG} {tt : MT} {te : ME} {vs : List Nat} {Q : D → Store → Prop} (h : wR (mi F C) (fun it C1 => wR (lcR it g tt te vs F C1) Q E) E) : wR (mLc false mi g tt te vs F C) Q E := by
  unfold lcR mLc at h
  unfold mLc
  exact w_bnd h
theorem lc_p {it : ItD} {xs : List D} {g : MG} {tt : MT} {te : ME} {vs : List Nat} {Q : D → Store → Prop} (p : PureIt it xs) (f : D → Bool) (h : D → D) (sz : xs.length ≤ 16777215)
    (st : ∀ x ∈ xs, ∃ sl1, g x (wipeD F.sl vs) = some sl1 ∧ ∀ acc, wR (tt ⟨C.length, sl1⟩ (accS C acc)) (fun b C' => b = f x ∧ C' = accS C acc) noX ∧ (f x = true → wR (te ⟨C.length, sl1⟩ (accS C acc)) (fun d C' => d = h x ∧ C' = accS C acc) noX))
    (hc : ∀ x ∈ xs, f x = true → cb C.length (h x) = true) (q : Q (.lst ((xs.filter f).map h)) C) : wR (lcR it g tt te vs F C) Q E := w_lcP rfl p f h sz st hc q
end
end CT
set_option maxHeartbeats 4000000
/-! Q0: a web's fields. -/
namespace CL
open PySem L2 CT
section
variable {N : Nat} {f : Int × Int → Int} {C : Store} {Q : D → Store → Prop}
theorem wo_fld0 (h : Q (.int N) C) : wO (oFld 0 0 (webD N f) C) Q := wo_fld rfl h
theorem wo_fld1 (h : Q (gridD (rowsOf N f)) C) : wO (oFld 0 1 (webD N f) C) Q := wo_fld rfl h
theorem wo_fld2 (h : Q (.tup ((tiesL N f).map triD)) C) : wO (oFld 0 2 (webD N f) C) Q := wo_fld rfl h
end
local macro_rules | `(tactic| walk_at "w") => `(tactic| first | ((with_reducible apply gR); first | with_reducible refine w_var rfl ?_ | with_reducible apply w_cons | with_reducible apply w_c | with_reducible apply w_nil | with_reducible apply w_op | with_reducible apply w_ap | with_reducible apply w_call | with_reducible apply w_tst | with_reducible apply w_un | with_reducible apply w_tand | with_reducible apply w_tor | with_reducible apply w_tnot | with_reducible apply w_yes | with_reducible apply w_and | with_reducible apply w_or | with_reducible apply w_not | with_reducible apply w_if | with_reducible apply w_chain | with_reducible apply w_isi | with_reducible apply w_isi2 | with_reducible apply w_prop | with_reducible apply w_meth | with_reducible apply w_dget | with_reducible apply w_dnewF | with_reducible apply w_dnewT | with_reducible apply w_part | with_reducible apply w_noPart | with_reducible apply w_slLF | with_reducible apply w_slA | with_reducible apply w_ok | with_reducible apply w_ofO | with_reducible apply w_lcI | with_reducible apply w_seqI | with_reducible apply w_rng1 | with_reducible apply w_rng2 | with_reducible apply w_enum) | ((with_reducible apply gO); first | with_reducible apply wo_add | with_reducible apply wo_sub | with_reducible apply wo_lt | with_reducible apply wo_gt | with_reducible apply wo_eq | with_reducible apply wo_ne | with_reducible apply wo_le | with_reducible apply wo_ge | with_reducible apply wo_neg | with_reducible apply wo_eqS | with_reducible apply wo_neS | with_reducible apply wo_min | with_reducible apply wo_max | with_reducible apply wo_int | with_reducible apply wo_abs | with_reducible apply wo_tupL | with_reducible apply wo_tupT | with_reducible refine wo_tup (by with_unfolding_all rfl) ?_ | with_reducible refine wo_lstF (by with_unfolding_all rfl) ?_ | with_reducible refine wo_lstT (by with_unfolding_all rfl) ?_ | with_reducible apply wo_fld0 | with_reducible apply wo_fldH0 | with_reducible apply wo_fld1 | with_reducible apply wo_fld2 | with_reducible apply wo_fldW0 | with_reducible apply wo_fldW1 | with_reducible apply wo_fldW2) | ((with_reducible apply gS); first | with_reducible apply w_seq | with_reducible apply w_asg | with_reducible apply w_sif | with_reducible apply w_next | with_reducible apply w_ret | with_reducible apply w_par | with_reducible apply w_drop | with_reducible apply w_asgT | with_reducible apply w_retN | with_reducible apply w_brk | with_reducible apply w_cnt | with_reducible apply w_raise | with_reducible apply w_forI) | ((with_reducible apply gI); first | with_reducible apply wI_t | with_reducible apply wI_f | with_reducible apply wI_not) | with_reducible apply w_bl | with_reducible apply thn_nx | with_reducible apply w_int | with_reducible apply w_obj | with_reducible apply thn_rt | with_reducible apply lp_nx | with_reducible apply fnl_int | with_reducible apply fnl_bl | with_reducible apply fnl_non | with_reducible apply fnl_str | with_reducible apply fnl_nx | with_reducible apply thn_bk | with_reducible apply thn_ct | with_reducible apply thn_xc | with_reducible apply lp_rt | with_reducible apply lp_bk | with_reducible apply lp_xc | with_reducible apply w_itL | with_reducible apply w_itT | with_reducible apply w_itK)
local macro_rules | `(tactic| walk_at "p") => `(tactic| repeat walk_at "w")
/-! BESp: webs side by side, plain (split from BES). -/
theorem cb_webB (n N : Nat) (f : Int × Int → Int) : cb n (webD N f) = true := by
  show (true && (cb n (gridD _) && (cbL n ((tiesL N f).map triD) && true))) = true
  rw [cb_grid, cb_ties]
  rfl
variable {N M : Nat} {f g : Int × Int → Int} {n : Int}
section
variable {C : Store} {Q : D → Store → Prop} {X : Exc → Store → Prop} {F : Fr} {P : RS → Prop} {N M i : Nat} {f g : Int × Int → Int} {n : Int} {w : D}
/-! ### beside -/
def shL (N : Nat) (L : List T3) : List T3 := L.map fun t => (t.1 + N, t.2.1 + N, t.2.2)
def besL (N M : Nat) (f g : Int × Int → Int) : List T3 := tiesL N f ++ shL N (tiesL M g)
theorem sh_pr {t : T3} (ht : t ∈ shL N (tiesL M g)) : pr t = (t.1, t.2.1) ∧ (N : Int) ≤ t.1 ∧ t.1 < t.2.1 ∧ t.2.1 < N + M := by
  obtain ⟨s, hs, rfl⟩ := List.mem_map.mp ht
  obtain ⟨_, _, a, b, c⟩ := pr_tie hs
  refine ⟨?_, by simp only; omega, by simp only; omega, by simp only; omega⟩
  unfold pr
  simp only
  rw [show min (s.1 + (N : Int)) (s.2.1 + N) = s.1 + N by omega, show max (s.1 + (N : Int)) (s.2.1 + N) = s.2.1 + N by omega]
theorem tot_sh {k : Int × Int} : ∀ L : List T3, tot (shL N L) k = tot L (k.1 - N, k.2 - N)
  | [] => rfl
  | t :: L => by
    have ih := tot_sh (k := k) L
    unfold shL at ih ⊢
    rw [List.map_cons, tot_cons, tot_cons, ih]
    have e : (pr (t.1 + (N : Int), t.2.1 + N, t.2.2) = k) ↔ pr t = (k.1 - N, k.2 - N) := by
      unfold pr
      rw [Prod.ext_iff, Prod.ext_iff]
      simp only
      omega
    by_cases z : pr t = (k.1 - N, k.2 - N)
    · rw [if_pos (e.mpr z), if_pos z]
    · rw [if_neg (fun y => z (e.mp y)), if_neg z]
theorem fL_bes (hf : FOk N f) (hg : FOk M g) (k : Int × Int) : fL (besL N M f g) k = f k + g (k.1 - N, k.2 - N) := by
  show dg0 (sums _) k = _
  rw [dg0_sums, besL, tot_app, tot_tiesF hf, tot_sh, tot_tiesF hg]
theorem FOk.bes (hf : FOk N f) (hg : FOk M g) (h : N + M ≤ 60) : FOk (N + M) (fL (besL N M f g)) := by
  refine ⟨h, fun k => ?_, fun k hk => ?_⟩
  · rw [fL_bes hf hg]
    have a := hf.b k
    have b := hg.b (k.1 - N, k.2 - N)
    by_cases z : k ∈ pairsL N
    · have c := mem_pairsI.mp z
      rw [hg.z (k.1 - N, k.2 - N) fun y => by
        have := mem_pairsI.mp y
        simp only at this
        omega]
      omega
    · rw [hf.z k z]
      omega
  · rw [fL_bes hf hg, hf.z k fun y => hk (by
      have := mem_pairsI.mp y
      exact mem_pairsI.mpr ⟨by omega, by omega, by omega⟩), hg.z (k.1 - N, k.2 - N) fun y => hk (by
      have := mem_pairsI.mp y
      simp only at this
      exact mem_pairsI.mpr ⟨by omega, by omega, by omega⟩)]
    rfl
theorem fits_bes (hf : FOk N f) (hg : FOk M g) (h : N + M ≤ 60) : Fits (N + M) (besL N M f g) := by
  refine ⟨h, fun t ht => ?_, ?_, fun u v _ _ => ((FOk.bes hf hg h).b _).2⟩
  · rcases List.mem_append.mp ht with ht | ht
    · obtain ⟨a, b, c, d, e, p⟩ := tie_valid hf ht
      exact ⟨a, by omega, c, by omega, e, p⟩
    · have p := sh_pr ht
      obtain ⟨s, hs, rfl⟩ := List.mem_map.mp ht
      have v := tie_valid hg hs
      simp only at p
      exact ⟨by simp only; omega, by simp only; omega, by simp only; omega, by simp only; omega, by simp only; omega, v.2.2.2.2.2⟩
  · have l1 := ties_len (f := f) hf.n
    have l2 := ties_len (f := g) hg.n
    unfold besL shL
    rw [List.length_append, List.length_map]
    omega
end
end CL
set_option maxHeartbeats 4000000
/-! E7: own operators with an int, list(range), extend, two writes, told backwards. -/
namespace CT
open PySem L2
section
variable {Q : D → Store → Prop} {E : Exc → Store → Prop} {F : Fr} {C : Store}
theorem w_mulR {c : Nat} {m : MF} {mo me : ME} (h : wR (mo F C) (fun x C1 => wR (me F C1) (fun y C2 => ∃ i, y = .int i ∧ isC c x C2 = true ∧ wR (m [x, y] C2) Q E) E) E) : wR (mMulR c m mo me F C) Q E :=
  w_bnd (w_mono h (fun x C1 g => w_bnd (w_mono g (fun y C2 g => by
    obtain ⟨i, rfl, e, q⟩ := g
    simp only [e, if_true]
    exact q) fun _ _ z => z)) fun _ _ z => z)
theorem w_mulL {c : Nat} {m : MF} {mo me : ME} (h : wR (me F C) (fun x C1 => wR (mo F C1) (fun y C2 => ∃ i, x = .int i ∧ isC c y C2 = true ∧ wR (m [y, x] C2) Q E) E) E) : wR (mMulL c m me mo F C) Q E :=
  w_bnd (w_mono h (fun x C1 g => w_bnd (w_mono g (fun y C2 g => by
    obtain ⟨i, rfl, e, q⟩ := g
    simp only [e, if_true]
    exact q) fun _ _ z => z)) fun _ _ z => z)
end
/-! ### a comprehension whose list is an own one -/
/-! ### a def that hands back an own list -/
end CT
set_option maxHeartbeats 4000000
namespace CL
open PySem L2 CT
local macro_rules | `(tactic| walk_at "w") => `(tactic| first | ((with_reducible apply gR); first | with_reducible refine w_var rfl ?_ | with_reducible apply w_cons | with_reducible apply w_c | with_reducible apply w_nil | with_reducible apply w_op | with_reducible apply w_ap | with_reducible apply w_call | with_reducible apply w_tst | with_reducible apply w_un | with_reducible apply w_tand | with_reducible apply w_tor | with_reducible apply w_tnot | with_reducible apply w_yes | with_reducible apply w_and | with_reducible apply w_or | with_reducible apply w_not | with_reducible apply w_if | with_reducible apply w_chain | with_reducible apply w_isi | with_reducible apply w_isi2 | with_reducible apply w_prop | with_reducible apply w_meth | with_reducible apply w_dget | with_reducible apply w_dnewF | with_reducible apply w_dnewT | with_reducible apply w_part | with_reducible apply w_noPart | with_reducible apply w_slLF | with_reducible apply w_slA | with_reducible apply w_ok | with_reducible apply w_ofO | with_reducible apply w_lcI | with_reducible apply w_seqI | with_reducible apply w_rng1 | with_reducible apply w_rng2 | with_reducible apply w_enum) | ((with_reducible apply gO); first | with_reducible apply wo_add | with_reducible apply wo_sub | with_reducible apply wo_lt | with_reducible apply wo_gt | with_reducible apply wo_eq | with_reducible apply wo_ne | with_reducible apply wo_le | with_reducible apply wo_ge | with_reducible apply wo_neg | with_reducible apply wo_eqS | with_reducible apply wo_neS | with_reducible apply wo_min | with_reducible apply wo_max | with_reducible apply wo_int | with_reducible apply wo_abs | with_reducible apply wo_tupL | with_reducible apply wo_tupT | with_reducible refine wo_tup (by with_unfolding_all rfl) ?_ | with_reducible refine wo_lstF (by with_unfolding_all rfl) ?_ | with_reducible refine wo_lstT (by with_unfolding_all rfl) ?_ | with_reducible apply wo_fld0 | with_reducible apply wo_fldH0 | with_reducible apply wo_fld1 | with_reducible apply wo_fld2 | with_reducible apply wo_fldW0 | with_reducible apply wo_fldW1 | with_reducible apply wo_fldW2) | ((with_reducible apply gS); first | with_reducible apply w_seq | with_reducible apply w_asg | with_reducible apply w_sif | with_reducible apply w_next | with_reducible apply w_ret | with_reducible apply w_par | with_reducible apply w_drop | with_reducible apply w_asgT | with_reducible apply w_retN | with_reducible apply w_brk | with_reducible apply w_cnt | with_reducible apply w_raise | with_reducible apply w_forI) | ((with_reducible apply gI); first | with_reducible apply wI_t | with_reducible apply wI_f | with_reducible apply wI_not) | with_reducible apply w_bl | with_reducible apply thn_nx | with_reducible apply w_int | with_reducible apply w_obj | with_reducible apply thn_rt | with_reducible apply lp_nx | with_reducible apply fnl_int | with_reducible apply fnl_bl | with_reducible apply fnl_non | with_reducible apply fnl_str | with_reducible apply fnl_nx | with_reducible apply thn_bk | with_reducible apply thn_ct | with_reducible apply thn_xc | with_reducible apply lp_rt | with_reducible apply lp_bk | with_reducible apply lp_xc | with_reducible apply w_itL | with_reducible apply w_itT | with_reducible apply w_itK)
local macro_rules | `(tactic| walk_at "p") => `(tactic| repeat walk_at "w")
/-! RA1p: functions of webs; what +, -, * do to them; plain. -/
section
variable {N : Nat} {d : Dc} {C : Store} {L : List T3} {u v n : Int} {f g : Int × Int → Int} {k : Int × Int}
theorem dg0_out (h : DOk N d) {k : Int × Int} (hk : k ∉ pairsL N) : dg0 d k = 0 := by
  unfold dg0
  cases e : dg d k with
  | none => rfl
  | some n =>
    exfalso
    have := h.k _ (dg_mem e)
    simp only at this
    exact hk (mem_pairsI.mpr ⟨this.1, this.2.1, this.2.2.1⟩)
theorem DOk.fok (h : DOk N d) : FOk N (dg0 d) := ⟨h.n, h.f, fun _ => dg0_out h⟩
theorem sums_ok (hN : N ≤ 60) (h : ItOk N L) (hl : L.length ≤ 800) : DOk N (sums L) := by
  refine ⟨hN, sums_keys L, fun p hp => ?_, ?_⟩
  · have e := dg0_key (sums_keys L) hp
    have e2 : tot L p.1 = p.2 := by
      rw [← dg0_sums]
      unfold dg0
      rw [e]
      rfl
    have h1 := h.s p.1
    have h0 : 0 ≤ tot L p.1 := tot_nonneg fun t ht => (h.v t ht).2.2.2.2.2.1
    have hk : 0 ≤ p.1.1 ∧ p.1.1 < p.1.2 ∧ p.1.2 < N := fold_mem (P := fun p => 0 ≤ p.1.1 ∧ p.1.1 < p.1.2 ∧ p.1.2 < N) L [] (by simp) (fun t ht m => by
      obtain ⟨a, b, c, e, f, _⟩ := h.v t ht
      simp only [pr]
      omega) p hp
    exact ⟨hk.1, hk.2.1, hk.2.2, by omega, by omega⟩
  · have := sums_len L []
    simp only [List.length_nil] at this
    have q : (sums L).length ≤ 0 + L.length := this
    omega
/-! ### + - * -/
theorem fL_add (hf : FOk N f) (hg : FOk N g) : fL (tiesL N f ++ tiesL N g) = fun k => f k + g k := by
  funext k
  show dg0 (sums _) k = _
  rw [dg0_sums, tot_app, tot_tiesF hf, tot_tiesF hg]
theorem FOk.add (hf : FOk N f) (hg : FOk N g) (b : ∀ p, f p + g p ≤ 1000000000) : FOk N fun k => f k + g k :=
  ⟨hf.n, fun p => ⟨by have := hf.b p; have := hg.b p; omega, b p⟩, fun p hp => by
    show f p + g p = 0
    rw [hf.z p hp, hg.z p hp]
    rfl⟩
theorem fits_add (hf : FOk N f) (hg : FOk N g) (b : ∀ p, f p + g p ≤ 1000000000) : Fits N (tiesL N f ++ tiesL N g) := by
  refine ⟨hf.n, fun t ht => ?_, ?_, fun u v _ _ => ?_⟩
  · rcases List.mem_append.mp ht with ht | ht
    · exact tie_valid hf ht
    · exact tie_valid hg ht
  · have h1 := ties_len (f := f) hf.n
    have h2 := ties_len (f := g) hf.n
    rw [List.length_append]
    omega
  · rw [fL_add hf hg]
    exact b _
theorem FOk.sub (hf : FOk N f) (hg : FOk N g) (b : ∀ p, g p ≤ f p) : FOk N fun k => f k - g k :=
  ⟨hf.n, fun p => by
    show 0 ≤ f p - g p ∧ f p - g p ≤ 1000000000
    have := hf.b p
    have := hg.b p
    have := b p
    omega, fun p hp => by
    show f p - g p = 0
    rw [hf.z p hp, hg.z p hp]
    rfl⟩
def subL (N : Nat) (f g : Int × Int → Int) : List T3 := (tiesL N f).map fun t => (t.1, t.2.1, t.2.2 - g (t.1, t.2.1))
/-- the ties of a web with other numbers -/
theorem tot_re {h : Int × Int → Int} (hf : FOk N f) (k : Int × Int) : tot ((tiesL N f).map fun t => (t.1, t.2.1, h (t.1, t.2.1))) k = if k ∈ pairsL N ∧ 0 < f k then h k else 0 := by
  have e : ((tiesL N f).map fun t => (t.1, t.2.1, h (t.1, t.2.1))) = ((pairsL N).filter fun p => decide (0 < f p)).map fun p => (p.1, p.2, h p) := by
    unfold tiesL
    rw [List.map_map]
    rfl
  rw [e, tot_map (fun p hp => (mem_pairsI.mp (List.mem_filter.mp hp).1).2.1) ((pairs_nodup N).filter _)]
  simp only [List.mem_filter, decide_eq_true_eq]
theorem subL_is : subL N f g = (tiesL N f).map fun t => (t.1, t.2.1, (fun k => f k - g k) (t.1, t.2.1)) := by
  unfold subL
  refine List.map_congr_left fun t ht => ?_
  rw [(pr_tie ht).2.1]
theorem fL_sub (hf : FOk N f) (hg : FOk N g) (b : ∀ p, g p ≤ f p) : fL (subL N f g) = fun k => f k - g k := by
  funext k
  show dg0 (sums _) k = _
  rw [dg0_sums, subL_is]
  refine Eq.trans (tot_re (h := fun k => f k - g k) hf k) ?_
  split
  · rfl
  · rename_i hk
    show (0 : Int) = f k - g k
    have h1 := hf.b k
    have h2 := hg.b k
    have h3 := b k
    by_cases hp : k ∈ pairsL N
    · have : ¬ 0 < f k := fun z => hk ⟨hp, z⟩
      omega
    · rw [hf.z k hp, hg.z k hp]
      rfl
theorem re_valid {h : Int × Int → Int} (hh : FOk N h) {t : T3} (ht : t ∈ (tiesL N f).map fun t => (t.1, t.2.1, h (t.1, t.2.1))) : ValidT N t := by
  obtain ⟨s, hs, rfl⟩ := List.mem_map.mp ht
  have a := pr_tie hs
  have b := hh.b (s.1, s.2.1)
  exact ⟨by simp only; omega, by simp only; omega, by simp only; omega, by simp only; omega, by simp only; omega, b.1, b.2⟩
theorem fits_sub (hf : FOk N f) (hg : FOk N g) (b : ∀ p, g p ≤ f p) : Fits N (subL N f g) := by
  have hs := hf.sub hg b
  refine ⟨hf.n, fun t ht => ?_, ?_, fun u v _ _ => ?_⟩
  · rw [subL_is] at ht
    exact re_valid hs ht
  · have h1 := ties_len (f := f) hf.n
    unfold subL
    rw [List.length_map]
    omega
  · rw [fL_sub hf hg b]
    exact (hs.b _).2
theorem FOk.mul (hf : FOk N f) (n0 : 0 ≤ n) (b : ∀ p, f p * n ≤ 1000000000) : FOk N fun k => f k * n :=
  ⟨hf.n, fun p => ⟨Int.mul_nonneg (hf.b p).1 n0, b p⟩, fun p hp => by
    show f p * n = 0
    rw [hf.z p hp, Int.zero_mul]⟩
def mulL (N : Nat) (f : Int × Int → Int) (n : Int) : List T3 := (tiesL N f).map fun t => (t.1, t.2.1, t.2.2 * n)
theorem mulL_is : mulL N f n = (tiesL N f).map fun t => (t.1, t.2.1, (fun k => f k * n) (t.1, t.2.1)) := by
  unfold mulL
  refine List.map_congr_left fun t ht => ?_
  rw [(pr_tie ht).2.1]
theorem fL_mul (hf : FOk N f) : fL (mulL N f n) = fun k => f k * n := by
  funext k
  show dg0 (sums _) k = _
  rw [dg0_sums, mulL_is]
  refine Eq.trans (tot_re (h := fun k => f k * n) hf k) ?_
  split
  · rfl
  · rename_i hk
    show (0 : Int) = f k * n
    have h1 := hf.b k
    have : f k = 0 := by
      by_cases hp : k ∈ pairsL N
      · have : ¬ 0 < f k := fun z => hk ⟨hp, z⟩
        omega
      · exact hf.z k hp
    rw [this, Int.zero_mul]
theorem fits_mul (hf : FOk N f) (n0 : 0 ≤ n) (b : ∀ p, f p * n ≤ 1000000000) : Fits N (mulL N f n) := by
  have hs := hf.mul n0 b
  refine ⟨hf.n, fun t ht => ?_, ?_, fun u v _ _ => ?_⟩
  · rw [mulL_is] at ht
    exact re_valid hs ht
  · have h1 := ties_len (f := f) hf.n
    unfold mulL
    rw [List.length_map]
    omega
  · rw [fL_mul hf]
    exact b _
end
/-! OPS: own operators, == : steps. -/
section
variable {C : Store} {Q : D → Store → Prop} {X : Exc → Store → Prop} {F : Fr} {P : RS → Prop}
theorem w_binO {c : Nat} {m : MF} {mo me : ME} (h : wR (mo F C) (fun x C1 => wR (me F C1) (fun y C2 => (isC c x C2 && isC c y C2) = true ∧ wR (m [x, y] C2) Q X) X) X) : wR (mBinO c m mo me F C) Q X := by
  unfold mBinO
  refine w_bnd (w_mono h (fun x C1 g => w_bnd (w_mono g (fun y C2 g => ?_) fun _ _ z => z)) fun _ _ z => z)
  rw [if_pos g.1]
  exact g.2
theorem w_eqO {neg : Bool} {c : Nat} {m : MF} {mo me : ME} (h : wR (mo F C) (fun x C1 => wR (me F C1) (fun y C2 => (isC c x C2 && okT c (tyD y C2)) = true ∧ wR (m [x, y] C2) (fun z C3 => ∃ t, z = .bl t ∧ Q (.bl (if neg = true then !t else t)) C3) X) X) X) : wR (mEqO neg c m mo me F C) Q X := by
  unfold mEqO
  refine w_bnd (w_mono h (fun x C1 g => w_bnd (w_mono g (fun y C2 g => ?_) fun _ _ z => z)) fun _ _ z => z)
  rw [if_pos g.1]
  unfold negB
  refine w_bnd (w_mono g.2 (fun z C3 g => ?_) fun _ _ z => z)
  obtain ⟨t, rfl, q⟩ := g
  exact w_ok q
end
/-! RA2s: steps for instances, + - * walked. -/
section
variable {C : Store} {Q : D → Store → Prop} {X : Exc → Store → Prop} {F : Fr} {P : RS → Prop}
theorem w_ixO {c : Nat} {m : MF} {mo me : ME} (h : wR (mo F C) (fun x C1 => wR (me F C1) (fun y C2 => isC c x C2 = true ∧ wR (m [x, y] C2) Q X) X) X) : wR (mIxO c m mo me F C) Q X := by
  unfold mIxO
  refine w_bnd (w_mono h (fun x C1 g => w_bnd (w_mono g (fun y C2 g => ?_) fun _ _ z => z)) fun _ _ z => z)
  rw [if_pos g.1]
  exact g.2
theorem cb_web (n N : Nat) (f : Int × Int → Int) : cb n (webD N f) = true := by
  show (true && (cb n (gridD _) && (cbL n ((tiesL N f).map triD) && true))) = true
  rw [cb_grid, cb_ties]
  rfl
variable {N M : Nat} {f g : Int × Int → Int} {n : Int}
theorem cat_tri {L M : List T3} (h : L.length + M.length ≤ 16777216) : oCatT (.tup (L.map triD)) (.tup (M.map triD)) C = some (.tup ((L ++ M).map triD), C) := by
  have hz : szN ((L.map triD).length + (M.map triD).length) = true := by
    rw [List.length_map, List.length_map]
    simp [szN]
    omega
  simp only [oCatT, vT, hz, if_true]
  cases L with
  | nil => rfl
  | cons a L =>
    cases M with
    | nil => simp
    | cons b M => simp
end
/-! RA3r: places renamed; webs side by side. -/
section
variable {C : Store} {Q : D → Store → Prop} {X : Exc → Store → Prop} {F : Fr} {P : RS → Prop} {N M i : Nat} {f g : Int × Int → Int} {n : Int} {w : D}
/-! ### renamed -/
def ordD (os : List Nat) : D := .tup (os.map fun u : Nat => D.int u)
def oAt (os : List Nat) (x : Int) : Int := ((os.getD x.toNat 0 : Nat) : Int)
def renT (os : List Nat) (t : T3) : T3 := (oAt os t.1, oAt os t.2.1, t.2.2)
def renK (os : List Nat) (p : Int × Int) : Int × Int := (min (oAt os p.1) (oAt os p.2), max (oAt os p.1) (oAt os p.2))
theorem ord_ix {os : List Nat} {x : Int} (h0 : 0 ≤ x) (h1 : x < os.length) (C : Store) : oIx (ordD os) (.int x) C = some (.int (oAt os x), C) := by
  obtain ⟨k, rfl⟩ : ∃ k : Nat, x = k := ⟨x.toNat, by omega⟩
  have hk : k < os.length := by omega
  have w : wO (oIx (ordD os) (.int k) C) (fun d C' => d = .int (oAt os k) ∧ C' = C) := wo_ix (xs := os.map fun u : Nat => D.int u) (k := k) rfl rfl (by
    unfold oAt
    rw [List.getElem?_map, List.getD_eq_getElem?_getD, show ((k : Int)).toNat = k by omega, List.getElem?_eq_getElem hk]
    rfl) ⟨rfl, rfl⟩
  obtain ⟨d, C', e, rfl, rfl⟩ := w.h
  exact e
structure Ord (N : Nat) (os : List Nat) : Prop where
  p : os.Perm (List.range N)
theorem Ord.len {os : List Nat} (h : Ord N os) : os.length = N := by rw [h.p.length_eq, List.length_range]
theorem Ord.at_ {os : List Nat} (h : Ord N os) {x : Int} (h0 : 0 ≤ x) (h1 : x < N) : 0 ≤ oAt os x ∧ oAt os x < N := by
  have hl := h.len
  have hk : x.toNat < os.length := by omega
  have : os[x.toNat] ∈ List.range N := h.p.mem_iff.mp (List.getElem_mem hk)
  have := List.mem_range.mp this
  unfold oAt
  rw [List.getD_eq_getElem?_getD, List.getElem?_eq_getElem hk]
  show (0 : Int) ≤ (os[x.toNat] : Nat) ∧ ((os[x.toNat] : Nat) : Int) < N
  omega
theorem Ord.inj {os : List Nat} (h : Ord N os) {x y : Int} (x0 : 0 ≤ x) (x1 : x < N) (y0 : 0 ≤ y) (y1 : y < N) (e : oAt os x = oAt os y) : x = y := by
  have hl := h.len
  have nd : os.Nodup := h.p.nodup_iff.mpr List.nodup_range
  unfold oAt at e
  rw [List.getD_eq_getElem?_getD, List.getD_eq_getElem?_getD, List.getElem?_eq_getElem (show x.toNat < os.length by omega), List.getElem?_eq_getElem (show y.toNat < os.length by omega)] at e
  have e2 : os[x.toNat] = os[y.toNat] := by
    have : ((os[x.toNat] : Nat) : Int) = ((os[y.toNat] : Nat) : Int) := e
    omega
  have pw := List.pairwise_iff_getElem.mp nd
  by_cases c : x.toNat < y.toNat
  · exact absurd e2 (pw _ _ (by omega) (by omega) c)
  · by_cases c2 : y.toNat < x.toNat
    · exact absurd e2.symm (pw _ _ (by omega) (by omega) c2)
    · omega
theorem Ord.key {os : List Nat} (h : Ord N os) {p : Int × Int} (hp : p ∈ pairsL N) : renK os p ∈ pairsL N := by
  have a := mem_pairsI.mp hp
  have b := h.at_ (x := p.1) (by omega) (by omega)
  have c := h.at_ (x := p.2) (by omega) (by omega)
  have d : oAt os p.1 ≠ oAt os p.2 := fun e => by
    have := h.inj (by omega) (by omega) (by omega) (by omega) e
    omega
  refine mem_pairsI.mpr ⟨?_, ?_, ?_⟩
  · show 0 ≤ min _ _
    omega
  · show min _ _ < max _ _
    omega
  · show max _ _ < _
    omega
theorem Ord.kinj {os : List Nat} (h : Ord N os) {p q : Int × Int} (hp : p ∈ pairsL N) (hq : q ∈ pairsL N) (e : renK os p = renK os q) : p = q := by
  have a := mem_pairsI.mp hp
  have b := mem_pairsI.mp hq
  have e1 : min (oAt os p.1) (oAt os p.2) = min (oAt os q.1) (oAt os q.2) := congrArg Prod.fst e
  have e2 : max (oAt os p.1) (oAt os p.2) = max (oAt os q.1) (oAt os q.2) := congrArg Prod.snd e
  by_cases c : oAt os p.1 = oAt os q.1
  · have d : oAt os p.2 = oAt os q.2 := by omega
    exact Prod.ext (h.inj (by omega) (by omega) (by omega) (by omega) c) (h.inj (by omega) (by omega) (by omega) (by omega) d)
  · exfalso
    have c1 : oAt os p.1 = oAt os q.2 := by omega
    have c2 : oAt os p.2 = oAt os q.1 := by omega
    have := h.inj (by omega) (by omega) (by omega) (by omega) c1
    have := h.inj (by omega) (by omega) (by omega) (by omega) c2
    omega
/-- a sum over renamed keys -/
theorem tot_ren {f : Int × Int → Int} {φ : Int × Int → T3} {ψ : Int × Int → Int × Int} {q : Int × Int} : ∀ {l : List (Int × Int)}, (∀ p ∈ l, pr (φ p) = ψ p ∧ (φ p).2.2 = f p) → (∀ p ∈ l, ∀ r ∈ l, ψ p = ψ r → p = r) → l.Nodup →
    (∀ p ∈ l, ψ p = q → tot (l.map φ) q = f p) ∧ ((∀ p ∈ l, ψ p ≠ q) → tot (l.map φ) q = 0)
  | [], _, _, _ => ⟨fun p hp => (by cases hp), fun _ => rfl⟩
  | x :: l, h, inj, nd => by
    rw [List.nodup_cons] at nd
    have ih := tot_ren (f := f) (φ := φ) (ψ := ψ) (q := q) (l := l) (fun p hp => h p (List.mem_cons_of_mem _ hp)) (fun p hp r hr => inj p (List.mem_cons_of_mem _ hp) r (List.mem_cons_of_mem _ hr)) nd.2
    have hx := h x (List.mem_cons_self ..)
    rw [List.map_cons, tot_cons, hx.1, hx.2]
    refine ⟨fun p hp e => ?_, fun hn => ?_⟩
    · rcases List.mem_cons.mp hp with rfl | hp'
      · rw [if_pos e, ih.2 fun r hr e2 => nd.1 (by
          have := inj p (List.mem_cons_self ..) r (List.mem_cons_of_mem _ hr) (e.trans e2.symm)
          rwa [this])]
        omega
      · rw [if_neg (fun e2 => nd.1 (by
          have := inj x (List.mem_cons_self ..) p hp (e2.trans e.symm)
          rwa [this])), ih.1 p hp' e]
        omega
    · rw [if_neg (hn x (List.mem_cons_self ..)), ih.2 fun p hp => hn p (List.mem_cons_of_mem _ hp)]
      omega
def renL (N : Nat) (f : Int × Int → Int) (os : List Nat) : List T3 := (tiesL N f).map (renT os)
theorem renL_is {os : List Nat} : renL N f os = ((pairsL N).filter fun p => decide (0 < f p)).map fun p => (oAt os p.1, oAt os p.2, f p) := by
  unfold renL tiesL
  rw [List.map_map]
  rfl
theorem fL_ren {os : List Nat} (h : Ord N os) (hf : FOk N f) {q : Int × Int} : (∀ p ∈ pairsL N, renK os p = q → fL (renL N f os) q = f p) ∧ ((∀ p ∈ pairsL N, renK os p ≠ q) → fL (renL N f os) q = 0) := by
  have e : fL (renL N f os) q = tot (renL N f os) q := dg0_sums _ _
  rw [e, renL_is]
  have a := tot_ren (f := f) (φ := fun p => (oAt os p.1, oAt os p.2, f p)) (ψ := renK os) (q := q) (l := (pairsL N).filter fun p => decide (0 < f p)) (fun p hp => ⟨rfl, rfl⟩) (fun p hp r hr => h.kinj (List.mem_filter.mp hp).1 (List.mem_filter.mp hr).1) ((pairs_nodup N).filter _)
  refine ⟨fun p hp e => ?_, fun hn => a.2 fun p hp => hn p (List.mem_filter.mp hp).1⟩
  by_cases z : 0 < f p
  · exact a.1 p (List.mem_filter.mpr ⟨hp, decide_eq_true z⟩) e
  · have z2 : f p = 0 := by have := hf.b p; omega
    rw [z2]
    refine a.2 fun r hr e2 => ?_
    have hr' := List.mem_filter.mp hr
    have := h.kinj hp hr'.1 (e.trans e2.symm)
    subst this
    exact z (of_decide_eq_true hr'.2)
theorem FOk.ren {os : List Nat} (h : Ord N os) (hf : FOk N f) : FOk N (fL (renL N f os)) := by
  refine ⟨hf.n, fun q => ?_, fun q hq => (fL_ren h hf).2 fun p hp e => hq (e ▸ h.key hp)⟩
  by_cases z : ∃ p ∈ pairsL N, renK os p = q
  · obtain ⟨p, hp, e⟩ := z
    rw [(fL_ren h hf).1 p hp e]
    exact hf.b p
  · rw [(fL_ren h hf).2 fun p hp e => z ⟨p, hp, e⟩]
    omega
theorem fits_ren {os : List Nat} (h : Ord N os) (hf : FOk N f) : Fits N (renL N f os) := by
  refine ⟨hf.n, fun t ht => ?_, ?_, fun u v _ _ => ((FOk.ren h hf).b _).2⟩
  · obtain ⟨s, hs, rfl⟩ := List.mem_map.mp ht
    obtain ⟨_, e, a, b, c⟩ := pr_tie hs
    have x := h.at_ (x := s.1) (by omega) (by omega)
    have y := h.at_ (x := s.2.1) (by omega) (by omega)
    have v := tie_valid hf hs
    exact ⟨x.1, x.2, y.1, y.2, fun e => by
      have := h.inj (by omega) (by omega) (by omega) (by omega) e
      omega, v.2.2.2.2.2⟩
  · have := ties_len (f := f) hf.n
    unfold renL
    rw [List.length_map]
    omega
theorem renamed_w {os : List Nat} (h : Ord N os) (hf : FOk N f) (q : Q (webD N (fL (renL N f os))) C) : wR (m_renamed [webD N f, ordD os] C) Q X := by
  have l1 := ties_len (f := f) hf.n
  have hl := h.len
  rw [e_renamed]
  apply w_fin
  unfold b_renamed
  walk_at "p"
  refine w_mkT ?_
  walk_at "p"
  refine lc_p (pure_C ((tiesL N f).map triD)) (fun _ => true) (fun y => match y with | .tup [.int a, .int b, .int m] => triD (renT os (a, b, m)) | _ => .non) (by rw [List.length_map]; omega) (fun y hy => ?_) (fun y hy _ => ?_) ?_
  · obtain ⟨t, ht, rfl⟩ := List.mem_map.mp hy
    have pt := pr_tie ht
    refine ⟨_, rfl, fun acc => ⟨w_yes ⟨rfl, rfl⟩, fun _ => ?_⟩⟩
    walk_at "p"
    refine wo_of (ord_ix (os := os) (x := t.1) (by omega) (by omega) _) ?_
    walk_at "p"
    refine wo_of (ord_ix (os := os) (x := t.2.1) (by omega) (by omega) _) ?_
    walk_at "p"
    exact ⟨rfl, rfl⟩
  · obtain ⟨t, ht, rfl⟩ := List.mem_map.mp hy
    rfl
  have e : (((tiesL N f).map triD).filter fun _ => true).map (fun y => match y with | .tup [.int a, .int b, .int m] => triD (renT os (a, b, m)) | _ => .non) = (renL N f os).map triD := by
    rw [filter_yes]
    unfold renL
    rw [List.map_map, List.map_map]
    rfl
  rw [e]
  walk_at "p"
  refine w_of (make_ok (N := N) (L := renL N f os) (d := .lst ((renL N f os).map triD)) (ds := [.int N, .lst ((renL N f os).map triD)]) (fits_ren h hf) (.inl rfl) rfl rfl) ?_
  refine fnl_p (cb_web _ _ _) ?_
  rw [List.take_length]
  exact q
end
/-! PS27: sums over webs (plain; k27). -/
def w7 (f : Int × Int → Int) (u v : Nat) : Int := f (min (u : Int) (v : Int), max (u : Int) (v : Int))
def S7 (n : Nat) (g : Nat → Int) : Int := ((List.range n).map g).sum
theorem S7_succ (n : Nat) (g : Nat → Int) : S7 (n + 1) g = S7 n g + g n := by
  unfold S7
  rw [List.range_succ, List.map_append, List.sum_append]
  simp
theorem S7_cong {g h : Nat → Int} : ∀ {n : Nat}, (∀ i, i < n → g i = h i) → S7 n g = S7 n h
  | 0, _ => rfl
  | n + 1, e => by rw [S7_succ, S7_succ, S7_cong fun i hi => e i (by omega), e n (by omega)]
theorem S7_zero {g : Nat → Int} {n : Nat} (e : ∀ i, i < n → g i = 0) : S7 n g = 0 := by
  induction n with
  | zero => rfl
  | succ n ih => rw [S7_succ, ih fun i hi => e i (by omega), e n (by omega)]; rfl
theorem S7_add (g h : Nat → Int) : ∀ n, S7 n (fun i => g i + h i) = S7 n g + S7 n h
  | 0 => rfl
  | n + 1 => by rw [S7_succ, S7_succ, S7_succ, S7_add g h n]; omega
theorem S7_mul (c : Int) (g : Nat → Int) : ∀ n, S7 n (fun i => c * g i) = c * S7 n g
  | 0 => by simp [S7]
  | n + 1 => by rw [S7_succ, S7_succ, S7_mul c g n, Int.mul_add]
theorem S7_swap (g : Nat → Nat → Int) (m : Nat) : ∀ n, S7 n (fun i => S7 m fun j => g i j) = S7 m fun j => S7 n fun i => g i j
  | 0 => (S7_zero fun _ _ => rfl).symm
  | n + 1 => by
    rw [S7_succ, S7_swap g m n, ← S7_add]
    exact S7_cong fun j _ => (S7_succ n _).symm
theorem S7_split (a : Nat) (g : Nat → Int) : ∀ b, S7 (a + b) g = S7 a g + S7 b fun i => g (a + i)
  | 0 => by show S7 a g = S7 a g + 0; omega
  | b + 1 => by rw [← Nat.add_assoc, S7_succ, S7_split a g b, S7_succ]; omega
theorem flat_S7 {α : Type} (h : Nat → List α) (g : α → Int) : ∀ n, (((List.range n).flatMap h).map g).sum = S7 n fun u => ((h u).map g).sum
  | 0 => rfl
  | n + 1 => by
    rw [S7_succ, ← flat_S7 h g n, List.range_succ, List.flatMap_append, List.map_append, List.sum_append]
    simp
theorem pairs_S7 (N : Nat) (g : Int × Int → Int) : ((pairsL N).map g).sum = S7 N fun u => S7 N fun v => if u < v then g ((u : Int), (v : Int)) else 0 := by
  unfold pairsL
  rw [flat_S7]
  refine S7_cong fun u hu => ?_
  obtain ⟨m, rfl⟩ : ∃ m, N = (u + 1) + m := ⟨N - (u + 1), by omega⟩
  rw [S7_split, S7_zero (n := u + 1) fun i hi => by rw [if_neg (by omega)], List.map_map, show u + 1 + m - (u + 1) = m by omega, Int.zero_add]
  show S7 m _ = _
  refine S7_cong fun i hi => ?_
  rw [if_pos (by omega)]
  rfl
theorem ties_filt {f : Int × Int → Int} (hf : ∀ p, 0 ≤ f p) (c : T3 → Bool) : ∀ l : List (Int × Int), ((((l.filter fun p => decide (0 < f p)).map fun p => (p.1, p.2, f p)).filter c).map (·.2.2)).sum = (l.map fun p => if c (p.1, p.2, f p) = true then f p else 0).sum
  | [] => rfl
  | p :: l => by
    have ih := ties_filt hf c l
    have h0 := hf p
    rw [List.map_cons, List.sum_cons, ← ih]
    by_cases e : 0 < f p
    · rw [List.filter_cons_of_pos (by simpa using e), List.map_cons]
      cases k : c (p.1, p.2, f p) with
      | true => rw [List.filter_cons_of_pos (by simpa using k), List.map_cons, List.sum_cons, if_pos rfl]
      | false => rw [List.filter_cons_of_neg (by simpa using k), if_neg (by decide), Int.zero_add]
    · rw [List.filter_cons_of_neg (by simpa using e), show f p = 0 by omega]
      split <;> simp
theorem ties_all {f : Int × Int → Int} {N : Nat} (hf : ∀ p, 0 ≤ f p) : ((tiesL N f).map (·.2.2)).sum = ((pairsL N).map f).sum := by
  have e := ties_filt hf (fun _ => true) (pairsL N)
  rw [show (((pairsL N).filter fun p => decide (0 < f p)).map fun p => (p.1, p.2, f p)).filter (fun _ => true) = tiesL N f from List.filter_eq_self.mpr fun _ _ => rfl] at e
  simpa using e
/-- the degrees -/
def dg7 (N : Nat) (f : Int × Int → Int) : List Int := (List.range N).map fun v => S7 N (w7 f v)
section
variable {N M : Nat} {f g : Int × Int → Int} {os : List Nat}
theorem dg7_len : (dg7 N f).length = N := by simp [dg7]
theorem rows_dg7 : (rowsOf N f).map List.sum = dg7 N f := by
  unfold rowsOf dg7
  rw [List.map_map]
  rfl
theorem dg7_at {v : Nat} (hv : v < N) : (dg7 N f)[v]? = some (S7 N (w7 f v)) := by
  unfold dg7
  rw [List.getElem?_map, List.getElem?_range hv]
  rfl
theorem w7_symm (u v : Nat) : w7 f u v = w7 f v u := by
  unfold w7
  rw [Int.min_comm, Int.max_comm]
theorem w7_up {u v : Nat} (h : u < v) : w7 f u v = f ((u : Int), (v : Int)) := by
  unfold w7
  rw [show min (u : Int) (v : Int) = u by omega, show max (u : Int) (v : Int) = v by omega]
theorem w7_dia (hf : FOk N f) (u : Nat) : w7 f u u = 0 := hf.z _ fun h => by
  have := mem_pairsI.mp h
  simp only at this
  omega
theorem w7_two (hf : FOk N f) (u v : Nat) : w7 f u v = (if u < v then f ((u : Int), (v : Int)) else 0) + (if v < u then f ((v : Int), (u : Int)) else 0) := by
  by_cases h : u < v
  · rw [if_pos h, if_neg (by omega), w7_up h, Int.add_zero]
  · by_cases h2 : v < u
    · rw [if_neg h, if_pos h2, w7_symm, w7_up h2, Int.zero_add]
    · obtain rfl : u = v := by omega
      rw [if_neg h, w7_dia hf]
      rfl
/-- twice all ties are the degrees' sum -/
theorem dg7_sum (hf : FOk N f) : (dg7 N f).sum = 2 * ((tiesL N f).map (·.2.2)).sum := by
  rw [ties_all fun p => (hf.b p).1, pairs_S7]
  show S7 N (fun v => S7 N (w7 f v)) = _
  rw [S7_cong (h := fun u => S7 N (fun v => if u < v then f ((u : Int), (v : Int)) else 0) + S7 N (fun v => if v < u then f ((v : Int), (u : Int)) else 0)) fun u _ => by
    rw [← S7_add]
    exact S7_cong fun v _ => w7_two hf u v]
  rw [S7_add, S7_swap (fun u v => if v < u then f ((v : Int), (u : Int)) else 0)]
  omega
theorem dg7_add (t : Int) : ((dg7 N f).zip (dg7 N g)).map (fun p => p.1 + t * p.2) = dg7 N fun k => f k + t * g k := by
  unfold dg7
  rw [List.zip_map', List.map_map]
  refine List.map_congr_left fun v _ => ?_
  show S7 N (w7 f v) + t * S7 N (w7 g v) = _
  rw [← S7_mul, ← S7_add]
  rfl
theorem fok_out (hf : FOk N f) {a b : Int} (h : ¬ (0 ≤ a ∧ a < b ∧ b < N)) : f (a, b) = 0 := hf.z _ fun z => h (mem_pairsI.mp z)
theorem dg7_bes (hf : FOk N f) (hg : FOk M g) : dg7 (N + M) (fL (besL N M f g)) = dg7 N f ++ dg7 M g := by
  have e := fL_bes hf hg
  refine List.ext_getElem? fun v => ?_
  by_cases hv : v < N
  · rw [dg7_at (by omega), List.getElem?_append_left (by rw [dg7_len]; exact hv), dg7_at hv, S7_split, S7_zero (n := M) fun i hi => ?_, Int.add_zero]
    · congr 1
      refine S7_cong fun u hu => ?_
      unfold w7
      rw [e, fok_out hg (by omega), Int.add_zero]
    · unfold w7
      rw [e, fok_out hf (by omega), fok_out hg (by omega)]
      rfl
  · by_cases hv2 : v < N + M
    · obtain ⟨i, rfl⟩ : ∃ i, v = N + i := ⟨v - N, by omega⟩
      rw [dg7_at hv2, List.getElem?_append_right (by rw [dg7_len]; omega), dg7_len, show N + i - N = i by omega, dg7_at (by omega), S7_split, S7_zero (n := N) fun u hu => ?_, Int.zero_add]
      · congr 1
        refine S7_cong fun j hj => ?_
        unfold w7
        rw [e, fok_out hf (by omega), Int.zero_add]
        congr 1
        refine Prod.ext ?_ ?_ <;> simp only <;> omega
      · unfold w7
        rw [e, fok_out hf (by omega), fok_out hg (by omega)]
        rfl
    · rw [List.getElem?_eq_none (by rw [dg7_len]; omega), List.getElem?_eq_none (by rw [List.length_append, dg7_len, dg7_len]; omega)]
/-- what lies within the two sides and what crosses is all -/
theorem cross7 (hf : FOk N f) {h : Nat} (hh : h ≤ N) : (((tiesL N f).filter fun t => decide (decide (t.1 < (h : Int)) = decide (t.2.1 < (h : Int)))).map (·.2.2)).sum + S7 h (fun u => S7 (N - h) fun j => w7 f u (h + j)) = ((tiesL N f).map (·.2.2)).sum := by
  have nn := fun p => (hf.b p).1
  rw [ties_all nn]
  unfold tiesL
  rw [ties_filt nn, pairs_S7, pairs_S7]
  obtain ⟨m, rfl⟩ : ∃ m, N = h + m := ⟨N - h, by omega⟩
  rw [show h + m - h = m by omega]
  have key : S7 h (fun u => S7 m fun j => w7 f u (h + j)) = S7 (h + m) fun u => S7 (h + m) fun v => if u < v then (if u < h ∧ h ≤ v then f ((u : Int), (v : Int)) else 0) else 0 := by
    rw [S7_split, S7_zero (n := m) fun i hi => S7_zero fun v hv => by
      split
      · rw [if_neg (by omega)]
      · rfl, Int.add_zero]
    refine S7_cong fun u hu => ?_
    rw [S7_split, S7_zero (n := h) fun v hv => by
      split
      · rw [if_neg (by omega)]
      · rfl, Int.zero_add]
    refine S7_cong fun j hj => ?_
    rw [if_pos (by omega), if_pos ⟨hu, by omega⟩, w7_up (by omega)]
  rw [key, ← S7_add]
  refine S7_cong fun u hu => ?_
  rw [← S7_add]
  refine S7_cong fun v hv => ?_
  by_cases uv : u < v
  · rw [if_pos uv, if_pos uv, if_pos uv]
    simp only
    by_cases a : u < h
    · by_cases b : v < h
      · rw [decide_eq_true (show (u : Int) < h by omega), decide_eq_true (show (v : Int) < h by omega), if_neg (show ¬ (u < h ∧ h ≤ v) by omega)]
        simp
      · rw [decide_eq_true (show (u : Int) < h by omega), decide_eq_false (show ¬ (v : Int) < h by omega), if_pos (show u < h ∧ h ≤ v by omega)]
        simp
    · rw [decide_eq_false (show ¬ (u : Int) < h by omega), decide_eq_false (show ¬ (v : Int) < h by omega), if_neg (show ¬ (u < h ∧ h ≤ v) by omega)]
      simp
  · rw [if_neg uv, if_neg uv, if_neg uv]
    rfl
end
/-! RA2a: + of webs walked (split from RA2). -/
section
variable {C : Store} {Q : D → Store → Prop} {X : Exc → Store → Prop} {F : Fr} {P : RS → Prop}
variable {N M : Nat} {f g : Int × Int → Int} {n : Int}
theorem add_w (hf : FOk N f) (hg : FOk N g) (b : ∀ p, f p + g p ≤ 1000000000) (q : Q (webD N fun k => f k + g k) C) : wR (m_Web__add [webD N f, webD N g] C) Q X := by
  have l1 := ties_len (f := f) hf.n
  have l2 := ties_len (f := g) hf.n
  rw [e_Web__add]
  apply w_fin
  unfold b_Web__add b_Web__add_0
  walk_at "p"
  refine ⟨true, rfl, ?_⟩
  walk_at "p"
  unfold b_Web__add_1
  walk_at "p"
  refine wI_dt rfl ?_
  walk_at "p"
  unfold b_Web__add_2
  walk_at "p"
  refine w_mkT ?_
  walk_at "p"
  refine wo_of (cat_tri (by omega)) ?_
  walk_at "p"
  refine w_of (make_ok (N := N) (L := tiesL N f ++ tiesL N g) (d := .tup ((tiesL N f ++ tiesL N g).map triD)) (ds := [.int N, .tup ((tiesL N f ++ tiesL N g).map triD)]) (fits_add hf hg b) (.inr (.inl rfl)) rfl rfl) ?_
  rw [fL_add hf hg]
  refine fnl_p (cb_web _ _ _) ?_
  rw [List.take_length]
  exact q
end
/-! RA2: + - of webs walked. -/
section
variable {C : Store} {Q : D → Store → Prop} {X : Exc → Store → Prop} {F : Fr} {P : RS → Prop}
variable {N M : Nat} {f g : Int × Int → Int} {n : Int}
/-- the number of a tie in a web's table -/
theorem at_row {t : T3} (ht : 0 ≤ t.1 ∧ t.1 < t.2.1 ∧ t.2.1 < N) (C : Store) : oIx (gridD (rowsOf N g)) (.int t.1) C = some (rowD N g t.1.toNat, C) := by
  have e := gix (N := N) (f := g) (u := t.1.toNat) (by omega) C
  rwa [show ((t.1.toNat : Nat) : Int) = t.1 by omega] at e
theorem at_col {t : T3} (ht : 0 ≤ t.1 ∧ t.1 < t.2.1 ∧ t.2.1 < N) (C : Store) : oIx (rowD N g t.1.toNat) (.int t.2.1) C = some (.int (g (t.1, t.2.1)), C) := by
  have e := rix (N := N) (f := g) (u := t.1.toNat) (v := t.2.1.toNat) (by omega) C
  rwa [show ((t.1.toNat : Nat) : Int) = t.1 by omega, show ((t.2.1.toNat : Nat) : Int) = t.2.1 by omega, show min t.1 t.2.1 = t.1 by omega, show max t.1 t.2.1 = t.2.1 by omega] at e
theorem sub_w (hf : FOk N f) (hg : FOk N g) (b : ∀ p, g p ≤ f p) (q : Q (webD N fun k => f k - g k) C) : wR (m_Web__sub [webD N f, webD N g] C) Q X := by
  have l1 := ties_len (f := f) hf.n
  have l2 := ties_len (f := g) hf.n
  rw [e_Web__sub]
  apply w_fin
  unfold b_Web__sub b_Web__sub_0
  walk_at "p"
  refine ⟨true, rfl, ?_⟩
  walk_at "p"
  unfold b_Web__sub_1
  walk_at "p"
  refine wI_dt rfl ?_
  walk_at "p"
  unfold b_Web__sub_2
  walk_at "p"
  refine loop_p (pure_C ((tiesL N g).map triD)) (fun j sl S => S = C ∧ ∃ t2 t3 t4, sl = [some (webD N f), some (webD N g), t2, t3, t4]) ⟨rfl, _, _, _, rfl⟩ ?_ ?_
  · rintro j y sl S hy ⟨rfl, t2, t3, t4, rfl⟩
    obtain ⟨t, ht, rfl⟩ := List.mem_map.mp (List.mem_of_getElem? hy)
    have pt := pr_tie ht
    refine ⟨_, rfl, ?_⟩
    unfold b_Web__sub_2b_0
    walk_at "p"
    refine wo_of (at_row pt.2.2 _) ?_
    walk_at "p"
    refine wo_of (at_col pt.2.2 _) ?_
    walk_at "p"
    refine wI_df (by have := b (t.1, t.2.1); rw [← pt.2.1] at this; omega) ?_
    walk_at "p"
    exact ⟨rfl, _, _, _, rfl⟩
  · rintro sl S ⟨rfl, t2, t3, t4, rfl⟩
    walk_at "p"
    unfold b_Web__sub_3
    walk_at "p"
    refine w_mkT ?_
    walk_at "p"
    refine lc_p (pure_C ((tiesL N f).map triD)) (fun _ => true) (fun y => match y with | .tup [.int a, .int b, .int n] => triD (a, b, n - g (a, b)) | _ => .non) (by rw [List.length_map]; omega) (fun y hy => ?_) (fun y hy _ => ?_) ?_
    · obtain ⟨t, ht, rfl⟩ := List.mem_map.mp hy
      have pt := pr_tie ht
      refine ⟨_, rfl, fun acc => ⟨w_yes ⟨rfl, rfl⟩, fun _ => ?_⟩⟩
      walk_at "p"
      refine wo_of (at_row pt.2.2 _) ?_
      walk_at "p"
      refine wo_of (at_col pt.2.2 _) ?_
      walk_at "p"
      exact ⟨rfl, rfl⟩
    · obtain ⟨t, ht, rfl⟩ := List.mem_map.mp hy
      rfl
    have e : (((tiesL N f).map triD).filter fun _ => true).map (fun y => match y with | .tup [.int a, .int b, .int n] => triD (a, b, n - g (a, b)) | _ => .non) = (subL N f g).map triD := by
      rw [filter_yes]
      unfold subL
      rw [List.map_map, List.map_map]
      rfl
    rw [e]
    walk_at "p"
    refine w_of (make_ok (N := N) (L := subL N f g) (d := .lst ((subL N f g).map triD)) (ds := [.int N, .lst ((subL N f g).map triD)]) (fits_sub hf hg b) (.inl rfl) rfl rfl) ?_
    rw [fL_sub hf hg b]
    refine fnl_p (cb_web _ _ _) ?_
    rw [List.take_length]
    exact q
end
/-! RA2m: web * k walked. -/
section
variable {C : Store} {Q : D → Store → Prop} {X : Exc → Store → Prop} {F : Fr} {P : RS → Prop} {N M : Nat} {f g : Int × Int → Int} {n : Int}
theorem mul_w (hf : FOk N f) (n0 : 0 ≤ n) (b : ∀ p, f p * n ≤ 1000000000) (q : Q (webD N fun k => f k * n) C) : wR (m_Web__mul [webD N f, .int n] C) Q X := by
  have l1 := ties_len (f := f) hf.n
  have cm : ∀ t ∈ tiesL N f, cMul t.2.2 n = true := fun t ht => by
    have v := tie_valid hf ht
    have h := v.2.2.2.2.2
    simp only [cMul, Bool.or_eq_true, Bool.and_eq_true, decide_eq_true_eq]
    refine .inl ⟨?_, ?_⟩ <;> omega
  rw [e_Web__mul]
  apply w_fin
  unfold b_Web__mul b_Web__mul_0
  walk_at "p"
  refine w_of (is_integer_int _ _) ?_
  walk_at "p"
  unfold b_Web__mul_1
  walk_at "p"
  refine lc_p (pure_C ((tiesL N f).map triD)) (fun _ => true) (fun y => .bl false) (by rw [List.length_map]; omega) (fun y hy => ?_) (fun y hy _ => rfl) ?_
  · obtain ⟨t, ht, rfl⟩ := List.mem_map.mp hy
    have pt := pr_tie ht
    refine ⟨_, rfl, fun acc => ⟨w_yes ⟨rfl, rfl⟩, fun _ => ?_⟩⟩
    walk_at "p"
    refine wo_mul (cm t ht) ?_
    walk_at "p"
    refine ⟨?_, rfl⟩
    congr 1
    have := b (t.1, t.2.1)
    rw [← pt.2.1] at this
    exact decide_eq_false (by omega)
  walk_at "p"
  refine wo_of (anyF (C := C) fun d hd => by
    obtain ⟨y, _, rfl⟩ := List.mem_map.mp hd
    rfl) ?_
  walk_at "p"
  unfold b_Web__mul_2
  walk_at "p"
  refine w_mkT ?_
  walk_at "p"
  refine lc_p (pure_C ((tiesL N f).map triD)) (fun _ => true) (fun y => match y with | .tup [.int a, .int b, .int m] => triD (a, b, m * n) | _ => .non) (by rw [List.length_map]; omega) (fun y hy => ?_) (fun y hy _ => ?_) ?_
  · obtain ⟨t, ht, rfl⟩ := List.mem_map.mp hy
    refine ⟨_, rfl, fun acc => ⟨w_yes ⟨rfl, rfl⟩, fun _ => ?_⟩⟩
    walk_at "p"
    refine wo_mul (cm t ht) ?_
    walk_at "p"
    exact ⟨rfl, rfl⟩
  · obtain ⟨t, ht, rfl⟩ := List.mem_map.mp hy
    rfl
  have e : (((tiesL N f).map triD).filter fun _ => true).map (fun y => match y with | .tup [.int a, .int b, .int m] => triD (a, b, m * n) | _ => .non) = (mulL N f n).map triD := by
    rw [filter_yes]
    unfold mulL
    rw [List.map_map, List.map_map]
    rfl
  rw [e]
  walk_at "p"
  refine w_of (make_ok (N := N) (L := mulL N f n) (d := .lst ((mulL N f n).map triD)) (ds := [.int N, .lst ((mulL N f n).map triD)]) (fits_mul hf n0 b) (.inl rfl) rfl rfl) ?_
  rw [fL_mul hf]
  refine fnl_p (cb_web _ _ _) ?_
  rw [List.take_length]
  exact q
theorem rmul_w (hf : FOk N f) (n0 : 0 ≤ n) (b : ∀ p, f p * n ≤ 1000000000) (q : Q (webD N fun k => f k * n) C) : wR (m_Web__rmul [webD N f, .int n] C) Q X := by
  rw [e_Web__rmul]
  apply w_fin
  unfold b_Web__rmul b_Web__rmul_0
  walk_at "p"
  refine w_of (is_integer_int _ _) ?_
  walk_at "p"
  unfold b_Web__rmul_1
  walk_at "p"
  refine w_mulR ?_
  walk_at "p"
  refine ⟨rfl, mul_w hf n0 b ?_⟩
  refine fnl_p (cb_web _ _ _) ?_
  rw [List.take_length]
  exact q
end
/-! BES: webs side by side. -/
section
variable {C : Store} {Q : D → Store → Prop} {X : Exc → Store → Prop} {F : Fr} {P : RS → Prop} {N M i : Nat} {f g : Int × Int → Int} {n : Int} {w : D}
theorem beside_w (hf : FOk N f) (hg : FOk M g) (h : N + M ≤ 60) (q : Q (webD (N + M) (fL (besL N M f g))) C) : wR (m_beside [webD N f, webD M g] C) Q X := by
  have l1 := ties_len (f := f) hf.n
  have l2 := ties_len (f := g) hg.n
  rw [e_beside]
  apply w_fin
  unfold b_beside b_beside_0
  walk_at "p"
  refine wI_df (by omega) ?_
  walk_at "p"
  unfold b_beside_1
  walk_at "p"
  refine lc_p (pure_C ((tiesL M g).map triD)) (fun _ => true) (fun y => match y with | .tup [.int a, .int b, .int m] => triD (a + N, b + N, m) | _ => .non) (by rw [List.length_map]; omega) (fun y hy => ?_) (fun y hy _ => ?_) ?_
  · obtain ⟨t, ht, rfl⟩ := List.mem_map.mp hy
    refine ⟨_, rfl, fun acc => ⟨w_yes ⟨rfl, rfl⟩, fun _ => ?_⟩⟩
    walk_at "p"
    exact ⟨rfl, rfl⟩
  · obtain ⟨t, ht, rfl⟩ := List.mem_map.mp hy
    rfl
  have e : (((tiesL M g).map triD).filter fun _ => true).map (fun y => match y with | .tup [.int a, .int b, .int m] => triD (a + N, b + N, m) | _ => .non) = (shL N (tiesL M g)).map triD := by
    rw [filter_yes]
    unfold shL
    rw [List.map_map, List.map_map]
    rfl
  rw [e]
  walk_at "p"
  unfold b_beside_2
  walk_at "p"
  refine w_mkT ?_
  walk_at "p"
  refine wo_listF (xs := (tiesL N f).map triD) rfl ?_
  walk_at "p"
  refine wo_catF (by unfold shL; simp only [List.length_map]; omega) ?_
  have e2 : (tiesL N f).map triD ++ (shL N (tiesL M g)).map triD = (besL N M f g).map triD := by
    unfold besL
    rw [List.map_append]
  rw [e2]
  walk_at "p"
  refine w_of (make_ok (N := N + M) (L := besL N M f g) (d := .lst ((besL N M f g).map triD)) (ds := [.int ((N : Int) + M), .lst ((besL N M f g).map triD)]) (fits_bes hf hg h) (.inl rfl) rfl rfl) ?_
  refine fnl_p (cb_webB _ _ _) ?_
  rw [List.take_length]
  exact q
end
end CL
set_option maxHeartbeats 4000000
/-! O2e: web == x. -/
namespace CL
open PySem L2 CT
section
variable {N M : Nat} {f g : Int × Int → Int} {C : Store}
/-! ### == -/
theorem eqv_tri (a b : T3) : PyData.eqv (triP a) (triP b) = decide (a = b) := by
  obtain ⟨a1, a2, a3⟩ := a
  obtain ⟨b1, b2, b3⟩ := b
  rw [Bool.eq_iff_iff]
  simp only [triP, PyData.eqv, PyData.eqvAll, Bool.and_true, Bool.and_eq_true, beq_iff_eq, decide_eq_true_eq, Prod.mk.injEq]
theorem eqv_tris : ∀ l m : List T3, PyData.eqvAll (l.map triP) (m.map triP) = decide (l = m)
  | [], [] => by simp [PyData.eqvAll]
  | [], b :: m => by simp [PyData.eqvAll]
  | a :: l, [] => by simp [PyData.eqvAll]
  | a :: l, b :: m => by
    simp only [List.map_cons, PyData.eqvAll, eqv_tri, eqv_tris l m]
    rw [Bool.eq_iff_iff]
    simp
theorem lay_tris : ∀ l : List T3, PyData.canLayAll0 (l.map triP) = true ∧ PyData.depthAll (l.map triP) ≤ 1
  | [] => ⟨rfl, by simp [PyData.depthAll]⟩
  | x :: l => by
    have := lay_tris l
    refine ⟨?_, ?_⟩
    · simp only [List.map_cons, PyData.canLayAll0, triP, PyData.canLay0, Bool.true_and]
      exact this.1
    · have h2 := this.2
      have h3 : (triP x).depth = 1 := by simp [triP, PyData.depth, PyData.depthAll]
      simp only [List.map_cons, PyData.depthAll, h3]
      omega
theorem eq_ties (l m : List T3) (C : Store) : oEqA false (.tup (l.map triD)) (.tup (m.map triD)) C = some (.bl (decide (l = m)), C) := by
  have hs : ∀ k : List T3, SeqAt.shaped (.tuple (k.map triP)) = true := fun k => by
    have a := lay_tris k
    have hd : PyData.depth (.tuple (k.map triP)) ≤ 64 := by
      simp only [PyData.depth]
      omega
    simp only [SeqAt.shaped, PyData.canLay0, a.1, decide_eq_true hd, Bool.and_self]
  show oEqD false _ _ C = _
  simp only [oEqD, toP, toPs_tri, Option.map_some, hs, Bool.and_self, if_true, PyData.eqv, eqv_tris]
  rfl
theorem eq_web : m_Web__eq [webD N f, webD N g] C = .ok (.bl (decide (tiesL N f = tiesL N g))) C := by
  have h1 : isi [0] (webD N g) C (.own 0) = some true := by simp [webD, isi, tyD]
  have h2 : mUn (oFld 0 2) (mVar 0) ⟨C.length, [some (webD N f), some (webD N g)]⟩ C = .ok (.tup ((tiesL N f).map triD)) C := by simp [webD]
  have h3 : mUn (oFld 0 2) (mVar 1) ⟨C.length, [some (webD N f), some (webD N g)]⟩ C = .ok (.tup ((tiesL N g).map triD)) C := by simp [webD]
  have h4 : mUn (oFld 0 0) (mVar 0) ⟨C.length, [some (webD N f), some (webD N g)]⟩ C = .ok (.int N) C := by simp [webD]
  have h5 : mUn (oFld 0 0) (mVar 1) ⟨C.length, [some (webD N f), some (webD N g)]⟩ C = .ok (.int N) C := by simp [webD]
  have h6 : mIsi [0] (.own 0) (mVar 1) ⟨C.length, [some (webD N f), some (webD N g)]⟩ C = .ok (.bl true) C := by simp [h1]
  rw [e_Web__eq, b_Web__eq, ev_sret, ev_and, h6, andK_t, ev_and, ev_op, h4, opK_ok, h5, opK2_ok, ev_eq, decide_eq_true rfl, ev_ofO_some, andK_t, ev_op, h2, opK_ok, h3, opK2_ok, eq_ties, ev_ofO_some, retK_ok, finS_rt, CT.fin_bl, List.take_length]
end
end CL
set_option maxHeartbeats 4000000
/-! M7: degrees. -/
set_option maxHeartbeats 4000000
/-! M7: total, degrees, within, changed, crossing. -/
namespace CL
open PySem L2 CT
section
variable {N M : Nat} {f g : Int × Int → Int} {C : Store}
theorem total_ok (h : N ≤ 60) : m_Web_total [webD N f] C = .ok (.int ((tiesL N f).map (·.2.2)).sum) C := by
  have e : mLc false (mSeq (mUn (oFld 0 2) (mVar 0))) (Tgt.tp [1, 2, 3]).M tYesM (mVar 3) [1, 2, 3] ⟨C.length, [some (webD N f), none, none, none]⟩ C = .ok (.lst (((tiesL N f).map (·.2.2)).map .int)) C := by
    have e := ev_lc (pure_C ((tiesL N f).map triD)) (mi := mSeq (mUn (oFld 0 2) (mVar 0))) (g := (Tgt.tp [1, 2, 3]).M) (tt := tYesM) (te := mVar 3) (vs := [1, 2, 3]) (F := ⟨C.length, [some (webD N f), none, none, none]⟩) (C := C) (fun _ => true) thirdD
      (ev_seqI (d := .tup ((tiesL N f).map triD)) (by simp [webD]) rfl) (by rw [List.length_map]; have := ties_len (f := f) h; omega)
      (fun x hx => by
        obtain ⟨t, _, rfl⟩ := List.mem_map.mp hx
        exact ⟨[some (webD N f), some (.int t.1), some (.int t.2.1), some (.int t.2.2)], by simp [triD], fun acc => ⟨rfl, fun _ => by simp [triD, thirdD]⟩⟩)
      (fun x hx _ => by
        obtain ⟨t, _, rfl⟩ := List.mem_map.mp hx
        rfl)
    rw [e, filter_yes, List.map_map, List.map_map]
    rfl
  rw [e_Web_total, b_Web_total, ev_sret, ev_ap, ev_cons, e]
  simp only [consK_ok, ev_nil, consK2_ok, apK_ok, sum_ints, ev_ofO_some, retK_ok, finS_rt, fin_int, List.take_length]
end
end CL
set_option maxHeartbeats 4000000
/-! N7b: within. -/
namespace CL
open PySem L2 CT
section
variable {N M : Nat} {f g : Int × Int → Int} {C : Store}
def leD (g : Int × Int → Int) : D → D
  | .tup [.int a, .int b, .int n] => .bl (decide (n ≤ g (a, b)))
  | _ => .non
theorem within_ok (h : N ≤ 60) : m_Web_within [webD N f, webD N g] C = .ok (.bl ((tiesL N f).all fun t => decide (t.2.2 ≤ g (t.1, t.2.1)))) C := by
  have e0 : b_Web_within_0 ⟨C.length, [some (webD N f), some (webD N g), none, none, none]⟩ C = .nx [some (webD N f), some (webD N g), none, none, none] C := by
    simp [b_Web_within_0, webD]
  have e : mLc false (mSeq (mUn (oFld 0 2) (mVar 0))) (Tgt.tp [2, 3, 4]).M tYesM (mOp oLe (mVar 4) (mOp oIx (mOp oIx (mUn (oFld 0 1) (mVar 1)) (mVar 2)) (mVar 3))) [2, 3, 4] ⟨C.length, [some (webD N f), some (webD N g), none, none, none]⟩ C =
      .ok (.lst (((tiesL N f).map fun t => decide (t.2.2 ≤ g (t.1, t.2.1))).map .bl)) C := by
    have e := ev_lc (pure_C ((tiesL N f).map triD)) (mi := mSeq (mUn (oFld 0 2) (mVar 0))) (g := (Tgt.tp [2, 3, 4]).M) (tt := tYesM) (te := mOp oLe (mVar 4) (mOp oIx (mOp oIx (mUn (oFld 0 1) (mVar 1)) (mVar 2)) (mVar 3))) (vs := [2, 3, 4]) (F := ⟨C.length, [some (webD N f), some (webD N g), none, none, none]⟩) (C := C) (fun _ => true) (leD g)
      (ev_seqI (d := .tup ((tiesL N f).map triD)) (by simp [webD]) rfl) (by rw [List.length_map]; have := ties_len (f := f) h; omega)
      (fun x hx => by
        obtain ⟨t, ht, rfl⟩ := List.mem_map.mp hx
        obtain ⟨u, v, h1, h2, _, rfl⟩ := mem_ties.mp ht
        have hu : u < N := by omega
        have e1 : min (u : Int) (v : Int) = u := by omega
        have e2 : max (u : Int) (v : Int) = v := by omega
        refine ⟨[some (webD N f), some (webD N g), some (.int u), some (.int v), some (.int (f (u, v)))], by simp [triD], fun acc => ⟨rfl, fun _ => ?_⟩⟩
        simp [webD, gix hu, rix h2, e1, e2, leD, triD])
      (fun x hx _ => by
        obtain ⟨t, _, rfl⟩ := List.mem_map.mp hx
        rfl)
    rw [e, filter_yes, List.map_map, List.map_map]
    rfl
  rw [e_Web_within, b_Web_within, ev_seq, e0, seqK_nx, b_Web_within_1, ev_sret, ev_ap, ev_cons, e]
  simp only [consK_ok, ev_nil, consK2_ok, apK_ok, all_bls, ev_ofO_some, retK_ok, finS_rt, CT.fin_bl, List.take_length]
  rw [List.all_map]
  rfl
end
end CL
set_option maxHeartbeats 4000000
/-! E9: comprehensions and walks over lists of values that are written as data. -/
namespace CT
open PySem L2
theorem cbL_allM {n : Nat} : ∀ {l : List D}, (∀ d ∈ l, cb n d = true) → cbL n l = true
  | [], _ => rfl
  | d :: l, h => by
    show (cb n d && cbL n l) = true
    rw [h d (List.mem_cons_self ..), cbL_allM fun x hx => h x (List.mem_cons_of_mem _ hx)]
    rfl
theorem take_s1 {α : Type} {l : List α} {j : Nat} {x : α} (h : l[j]? = some x) : l.take (j + 1) = l.take j ++ [x] := by
  obtain ⟨hj, e⟩ := List.getElem?_eq_some_iff.mp h
  rw [← e]
  exact (List.take_append_getElem hj).symm
section
variable {α β : Type} {l : List α} {enc : α → D} {g g1 : MG} {tt tt1 : MT} {te : ME} {vs vs1 : List Nat} {F : Fr} {C : Store} {Q : D → Store → Prop} {E : Exc → Store → Prop} {it : ItD} {S : Store → Prop} {n : Nat} {sl : List (Option D)} {P : RS → Prop} {fl : Nat} {body : MS}
theorem acc_new (acc : List D) : (accS C acc)[C.length]? = some (some (.lst acc)) := by simp [accS]
theorem acc_set (acc acc' : List D) : (accS C acc).set C.length (some (.lst acc')) = accS C acc' := by simp [accS]
theorem lcN_M (p : ItOn S it (l.map enc)) (hS : ∀ acc, S (accS C acc)) (a0 : List D) (f : α → Bool) (h : α → D) (sz : a0.length + l.length ≤ 16777215)
    (st : ∀ a ∈ l, ∃ sl1, g (enc a) sl = some sl1 ∧ ∀ acc, wR (tt ⟨C.length, sl1⟩ (accS C acc)) (fun b C' => b = f a ∧ C' = accS C acc) noX ∧ (f a = true → wR (te ⟨C.length, sl1⟩ (accS C acc)) (fun d C' => d = h a ∧ C' = accS C acc) noX)) :
    lcN it g tt te C.length sl it.n 0 (accS C a0) = .ok () (accS C (a0 ++ (l.filter f).map h)) := by
  have len : ∀ j, (a0 ++ ((l.take j).filter f).map h).length ≤ a0.length + l.length := fun j => by
    have h1 := List.length_filter_le f (l.take j)
    rw [List.length_take] at h1
    rw [List.length_append, List.length_map]
    omega
  obtain ⟨acc', C', e, c, hC, ha⟩ := lc_w (tt := tt) (te := te) (g := g) (n := C.length) (sl := sl) p (fun j acc S => S = accS C acc ∧ acc = a0 ++ ((l.take j).filter f).map h) (fun j acc S z => z.1 ▸ hS acc) (fun j acc S z => by
    have := len j
    rw [z.2]
    omega) (fun j x acc S hx hc z => by
      obtain ⟨rfl, hacc⟩ := z
      rw [List.getElem?_map] at hx
      obtain ⟨a, ha, rfl⟩ := Option.map_eq_some_iff.mp hx
      obtain ⟨sl1, e, s⟩ := st a (List.mem_of_getElem? ha)
      have l1 := len j
      refine ⟨sl1, e, w_mono (s acc).1 (fun b S z => ?_) fun _ _ z => z⟩
      obtain ⟨rfl, rfl⟩ := z
      cases hf : f a with
      | true =>
        refine wI_t (w_mono ((s acc).2 hf) (fun d S z => ?_) fun _ _ z => z)
        obtain ⟨rfl, rfl⟩ := z
        refine ⟨acc, acc_new acc, by rw [hacc]; omega, ⟨acc_set _ _, ?_⟩, by simp [accS]⟩
        rw [hacc, take_s1 ha, List.filter_append]
        simp [hf]
      | false =>
        refine wI_f ⟨acc, acc_new acc, rfl, ?_⟩
        rw [hacc, take_s1 ha, List.filter_append]
        simp [hf]) it.n 0 a0 (accS C a0) (by rw [p.n]; omega) (acc_new a0) ⟨rfl, by simp⟩
  subst hC
  rw [e, ha, List.length_map, List.take_length]
theorem lcMo (p : ItOn S it (l.map enc)) (hS : ∀ acc, S (accS C acc)) (f : α → Bool) (h : α → D) (sz : l.length ≤ 16777215)
    (st : ∀ a ∈ l, ∃ sl1, g (enc a) (wipeD F.sl vs) = some sl1 ∧ ∀ acc, wR (tt ⟨C.length, sl1⟩ (accS C acc)) (fun b C' => b = f a ∧ C' = accS C acc) noX ∧ (f a = true → wR (te ⟨C.length, sl1⟩ (accS C acc)) (fun d C' => d = h a ∧ C' = accS C acc) noX))
    (hc : ∀ a ∈ l, f a = true → cb C.length (h a) = true) (q : Q (.lst ((l.filter f).map h)) C) : wR (lcR it g tt te vs F C) Q E := by
  have e := lcN_M (C := C) p hS [] f h (by simp only [List.length_nil]; omega) st
  unfold lcR mLc
  simp only [bnd_ok]
  rw [show C ++ [some (Cell.lst [])] = accS C [] from rfl, e]
  simp only [bn0_ok, List.nil_append]
  unfold lcEnd
  rw [if_neg (by decide), acc_new]
  have hb : cbL C.length ((l.filter f).map h) = true := cbL_allM fun d hd => by
    obtain ⟨a, ha, rfl⟩ := List.mem_map.mp hd
    obtain ⟨a1, a2⟩ := List.mem_filter.mp ha
    exact hc a a1 a2
  simp only [hb, if_true]
  rw [show (accS C ((l.filter f).map h)).take C.length = C from by simp [accS]]
  exact w_ok q
theorem lcM (p : PureIt it (l.map enc)) (f : α → Bool) (h : α → D) (sz : l.length ≤ 16777215)
    (st : ∀ a ∈ l, ∃ sl1, g (enc a) (wipeD F.sl vs) = some sl1 ∧ ∀ acc, wR (tt ⟨C.length, sl1⟩ (accS C acc)) (fun b C' => b = f a ∧ C' = accS C acc) noX ∧ (f a = true → wR (te ⟨C.length, sl1⟩ (accS C acc)) (fun d C' => d = h a ∧ C' = accS C acc) noX))
    (hc : ∀ a ∈ l, f a = true → cb C.length (h a) = true) (q : Q (.lst ((l.filter f).map h)) C) : wR (lcR it g tt te vs F C) Q E :=
  lcMo (p.on fun _ => True) (fun _ => trivial) f h sz st hc q
/-- without a test -/
theorem lcY (p : PureIt it (l.map enc)) (h : α → D) (sz : l.length ≤ 16777215)
    (st : ∀ a ∈ l, ∃ sl1, g (enc a) (wipeD F.sl vs) = some sl1 ∧ ∀ acc, wR (te ⟨C.length, sl1⟩ (accS C acc)) (fun d C' => d = h a ∧ C' = accS C acc) noX)
    (hc : ∀ a ∈ l, cb C.length (h a) = true) (q : Q (.lst (l.map h)) C) : wR (lcR it g tYesM te vs F C) Q E := by
  refine lcM p (fun _ => true) h sz (fun a ha => ?_) (fun a ha _ => hc a ha) ?_
  · obtain ⟨sl1, e, s⟩ := st a ha
    exact ⟨sl1, e, fun acc => ⟨w_yes ⟨rfl, rfl⟩, fun _ => s acc⟩⟩
  · rw [List.filter_eq_self.mpr fun _ _ => rfl]
    exact q
/-! ### two clauses -/
theorem fm_len {ys : α → List β} {m : Nat} : ∀ {l : List α}, (∀ a ∈ l, (ys a).length ≤ m) → (l.flatMap ys).length ≤ l.length * m
  | [], _ => by simp
  | a :: l, h => by
    have h1 := fm_len (l := l) fun x hx => h x (List.mem_cons_of_mem _ hx)
    have h2 := h a (List.mem_cons_self ..)
    rw [List.flatMap_cons, List.length_append, List.length_cons, Nat.succ_mul]
    omega
def fl2 (ys : α → List β) (f : α → β → Bool) (h : α → β → D) (l : List α) : List D := l.flatMap fun a => ((ys a).filter (f a)).map (h a)
theorem lc2N_M {enc2 : β → D} {ys : α → List β} {f : α → β → Bool} {h : α → β → D} {mi1 : MI} {m : Nat} (p : PureIt it (l.map enc)) (hm : ∀ a ∈ l, (ys a).length ≤ m) (sz : l.length * m ≤ 16000000) (sm : m ≤ 700000)
    (st : ∀ a ∈ l, ∃ sl1, g (enc a) sl = some sl1 ∧ (∀ acc, wR (mi1 ⟨C.length, sl1⟩ (accS C acc)) (fun it1 C' => C' = accS C acc ∧ PureIt it1 ((ys a).map enc2)) noX) ∧
      ∀ b ∈ ys a, ∃ sl2, g1 (enc2 b) (wipeD sl1 vs1) = some sl2 ∧ ∀ acc, wR (tt1 ⟨C.length, sl2⟩ (accS C acc)) (fun t C' => t = f a b ∧ C' = accS C acc) noX ∧ (f a b = true → wR (te ⟨C.length, sl2⟩ (accS C acc)) (fun d C' => d = h a b ∧ C' = accS C acc) noX)) :
    ∀ r j, r + j = l.length → lc2N it g tYesM mi1 g1 tt1 te C.length sl vs1 r j (accS C (fl2 ys f h (l.take j))) = .ok () (accS C (fl2 ys f h l))
  | 0, j, e => by
    have ej : j = l.length := by omega
    subst ej
    unfold lc2N
    have := p.fin (accS C (fl2 ys f h (l.take l.length)))
    rw [if_pos this, List.take_length]
  | r + 1, j, e => by
    have hj : j < l.length := by omega
    obtain ⟨sl1, h1, h2, h3⟩ := st l[j] (List.getElem_mem hj)
    have ih := lc2N_M (enc2 := enc2) (f := f) (h := h) p hm sz sm st r (j + 1) (by omega)
    have tk := take_s1 (List.getElem?_eq_getElem hj)
    have fl : fl2 ys f h (l.take (j + 1)) = fl2 ys f h (l.take j) ++ ((ys l[j]).filter (f l[j])).map (h l[j]) := by
      rw [tk]
      unfold fl2
      rw [List.flatMap_append]
      simp only [List.flatMap_cons, List.flatMap_nil, List.append_nil]
    rw [fl] at ih
    unfold lc2N
    have hj2 : j < (l.map enc).length := by rw [List.length_map]; exact hj
    rw [p.item j _ hj2, List.getElem?_eq_getElem hj2, List.getElem_map]
    simp only [h1]
    obtain ⟨it1, C', em, rfl, p1⟩ := w_out (h2 (fl2 ys f h (l.take j)))
    show bn0 (R.ok true (accS C (fl2 ys f h (l.take j)))) _ = _
    simp only [bn0_ok, if_true]
    rw [em]
    simp only [bn0_ok]
    have hl : (fl2 ys f h (l.take j)).length ≤ j * m := by
      have := fm_len (ys := fun a => ((ys a).filter (f a)).map (h a)) (l := l.take j) (m := m) fun a ha => by
        rw [List.length_map]
        exact Nat.le_trans (List.length_filter_le _ _) (hm a (List.mem_of_mem_take ha))
      have e2 : (l.take j).length = j := by simp; omega
      rw [e2] at this
      exact this
    have hl2 : (ys l[j]).length ≤ m := hm _ (List.getElem_mem hj)
    have hjm : j * m ≤ l.length * m := Nat.mul_le_mul_right _ (Nat.le_of_lt hj)
    have ein := lcN_M (S := fun _ => True) (g := g1) (tt := tt1) (te := te) (C := C) (sl := wipeD sl1 vs1) (p1.on fun _ => True) (fun _ => trivial) (fl2 ys f h (l.take j)) (f l[j]) (h l[j]) (by omega) h3
    rw [ein]
    simp only [bn0_ok]
    exact ih
theorem w_lc2i {mi : MI} {mi1 : MI} (h : wR (mi F C) (fun it C1 => wR (mLc2 false (fun _ C => .ok it C) g tt mi1 g1 tt1 te vs vs1 F C1) Q E) E) : wR (mLc2 false mi g tt mi1 g1 tt1 te vs vs1 F C) Q E := by
  unfold mLc2 at h
  unfold mLc2
  exact w_bnd h
theorem lc2M {enc2 : β → D} {mi1 : MI} (ys : α → List β) (f : α → β → Bool) (h : α → β → D) (m : Nat) (p : PureIt it (l.map enc)) (hm : ∀ a ∈ l, (ys a).length ≤ m) (sz : l.length * m ≤ 16000000) (sm : m ≤ 700000)
    (st : ∀ a ∈ l, ∃ sl1, g (enc a) (wipeD F.sl vs) = some sl1 ∧ (∀ acc, wR (mi1 ⟨C.length, sl1⟩ (accS C acc)) (fun it1 C' => C' = accS C acc ∧ PureIt it1 ((ys a).map enc2)) noX) ∧
      ∀ b ∈ ys a, ∃ sl2, g1 (enc2 b) (wipeD sl1 vs1) = some sl2 ∧ ∀ acc, wR (tt1 ⟨C.length, sl2⟩ (accS C acc)) (fun t C' => t = f a b ∧ C' = accS C acc) noX ∧ (f a b = true → wR (te ⟨C.length, sl2⟩ (accS C acc)) (fun d C' => d = h a b ∧ C' = accS C acc) noX))
    (hc : ∀ a ∈ l, ∀ b ∈ ys a, f a b = true → cb C.length (h a b) = true) (q : Q (.lst (fl2 ys f h l)) C) : wR (mLc2 false (fun _ C => .ok it C) g tYesM mi1 g1 tt1 te vs vs1 F C) Q E := by
  have e := lc2N_M (C := C) (enc2 := enc2) (f := f) (h := h) p hm sz sm st it.n 0 (by rw [p.n, List.length_map]; omega)
  unfold mLc2
  simp only [bnd_ok]
  rw [show C ++ [some (Cell.lst [])] = accS C (fl2 ys f h (l.take 0)) from rfl, e]
  simp only [bn0_ok]
  unfold lcEnd
  rw [if_neg (by decide), acc_new]
  have hb : cbL C.length (fl2 ys f h l) = true := cbL_allM fun d hd => by
    obtain ⟨a, ha, hd⟩ := List.mem_flatMap.mp hd
    obtain ⟨b, hb, rfl⟩ := List.mem_map.mp hd
    obtain ⟨b1, b2⟩ := List.mem_filter.mp hb
    exact hc a ha b b1 b2
  simp only [hb, if_true]
  rw [show (accS C (fl2 ys f h l)).take C.length = C from by simp [accS]]
  exact w_ok q
/-- without a test -/
theorem lc2Y {enc2 : β → D} {mi1 : MI} (ys : α → List β) (h : α → β → D) (m : Nat) (p : PureIt it (l.map enc)) (hm : ∀ a ∈ l, (ys a).length ≤ m) (sz : l.length * m ≤ 16000000) (sm : m ≤ 700000)
    (st : ∀ a ∈ l, ∃ sl1, g (enc a) (wipeD F.sl vs) = some sl1 ∧ (∀ acc, wR (mi1 ⟨C.length, sl1⟩ (accS C acc)) (fun it1 C' => C' = accS C acc ∧ PureIt it1 ((ys a).map enc2)) noX) ∧
      ∀ b ∈ ys a, ∃ sl2, g1 (enc2 b) (wipeD sl1 vs1) = some sl2 ∧ ∀ acc, wR (te ⟨C.length, sl2⟩ (accS C acc)) (fun d C' => d = h a b ∧ C' = accS C acc) noX)
    (hc : ∀ a ∈ l, ∀ b ∈ ys a, cb C.length (h a b) = true) (q : Q (.lst (l.flatMap fun a => (ys a).map (h a))) C) : wR (mLc2 false (fun _ C => .ok it C) g tYesM mi1 g1 tYesM te vs vs1 F C) Q E := by
  refine lc2M (enc2 := enc2) ys (fun _ _ => true) h m p hm sz sm (fun a ha => ?_) (fun a ha b hb _ => hc a ha b hb) ?_
  · obtain ⟨sl1, e, s1, s2⟩ := st a ha
    refine ⟨sl1, e, s1, fun b hb => ?_⟩
    obtain ⟨sl2, e2, s3⟩ := s2 b hb
    exact ⟨sl2, e2, fun acc => ⟨w_yes ⟨rfl, rfl⟩, fun _ => s3 acc⟩⟩
  · have : fl2 ys (fun _ _ => true) h l = l.flatMap fun a => (ys a).map (h a) := by
      unfold fl2
      congr 1
      funext a
      rw [List.filter_eq_self.mpr fun _ _ => rfl]
    rw [this]
    exact q
/-! ### walks -/
theorem loopM (p : PureIt it (l.map enc)) (I : Nat → List (Option D) → Store → Prop) (i0 : I 0 sl C)
    (step : ∀ j a sl C, l[j]? = some a → I j sl C → ∃ sl1, g (enc a) sl = some sl1 ∧ wS (body ⟨fl, sl1⟩ C) (lpP I (j + 1) P)) (fin : ∀ sl C, I l.length sl C → P (.nx sl C)) : wS (loopN it g body fl it.n 0 sl C) P := by
  refine loop_p p I i0 (fun j x sl C hx i => ?_) (fun sl C i => fin sl C (by rw [List.length_map] at i; exact i))
  rw [List.getElem?_map] at hx
  obtain ⟨a, ha, rfl⟩ := Option.map_eq_some_iff.mp hx
  exact step j a sl C ha i
/-- a range as a list of numbers -/
theorem rngI_M (n : Nat) : rngI 0 n = (List.range n).map fun k : Nat => D.int (k : Int) := by
  unfold rngI
  exact List.map_congr_left fun k _ => by rw [Int.zero_add]
theorem pureR0 (n : Nat) : PureIt (itR 0 n) ((List.range n).map fun k : Nat => D.int (k : Int)) := rngI_M n ▸ pure_R 0 n
end
/-! ### x *= e, d[k] += e -/
section
variable {C : Store} {X : Exc → Store → Prop}
theorem w_zipX {m : MA} {F : Fr} {Q : ItD → Store → Prop} (h : wR (m F C) (fun ds C1 => ∃ x y p q, ds = [x, y] ∧ sqOf x C1 = some p ∧ sqOf y C1 = some q ∧ Q (itC (zipD p.2 q.2)) C1) X) : wR (mZipX m F C) Q X := by
  unfold mZipX
  refine w_bnd (w_mono h (fun ds C1 g => ?_) fun _ _ z => z)
  obtain ⟨x, y, p, q, rfl, e1, e2, g⟩ := g
  simp only [e1, e2]
  exact w_ok g
end
end CT
set_option maxHeartbeats 4000000
namespace CL
open PySem L2 CT
local macro_rules | `(tactic| walk_at "w") => `(tactic| first | ((with_reducible apply gR); first | with_reducible refine w_var rfl ?_ | with_reducible apply w_cons | with_reducible apply w_c | with_reducible apply w_nil | with_reducible apply w_op | with_reducible apply w_ap | with_reducible apply w_call | with_reducible apply w_tst | with_reducible apply w_un | with_reducible apply w_tand | with_reducible apply w_tor | with_reducible apply w_tnot | with_reducible apply w_yes | with_reducible apply w_and | with_reducible apply w_or | with_reducible apply w_not | with_reducible apply w_if | with_reducible apply w_chain | with_reducible apply w_isi | with_reducible apply w_isi2 | with_reducible apply w_prop | with_reducible apply w_meth | with_reducible apply w_dget | with_reducible apply w_dnewF | with_reducible apply w_dnewT | with_reducible apply w_part | with_reducible apply w_noPart | with_reducible apply w_slLF | with_reducible apply w_slA | with_reducible apply w_ok | with_reducible apply w_ofO | with_reducible apply w_lcI | with_reducible apply w_seqI | with_reducible apply w_rng1 | with_reducible apply w_rng2 | with_reducible apply w_enum) | ((with_reducible apply gO); first | with_reducible apply wo_add | with_reducible apply wo_sub | with_reducible apply wo_lt | with_reducible apply wo_gt | with_reducible apply wo_eq | with_reducible apply wo_ne | with_reducible apply wo_le | with_reducible apply wo_ge | with_reducible apply wo_neg | with_reducible apply wo_eqS | with_reducible apply wo_neS | with_reducible apply wo_min | with_reducible apply wo_max | with_reducible apply wo_int | with_reducible apply wo_abs | with_reducible apply wo_tupL | with_reducible apply wo_tupT | with_reducible refine wo_tup (by with_unfolding_all rfl) ?_ | with_reducible refine wo_lstF (by with_unfolding_all rfl) ?_ | with_reducible refine wo_lstT (by with_unfolding_all rfl) ?_ | with_reducible apply wo_fld0 | with_reducible apply wo_fldH0 | with_reducible apply wo_fld1 | with_reducible apply wo_fld2 | with_reducible apply wo_fldW0 | with_reducible apply wo_fldW1 | with_reducible apply wo_fldW2) | ((with_reducible apply gS); first | with_reducible apply w_seq | with_reducible apply w_asg | with_reducible apply w_sif | with_reducible apply w_next | with_reducible apply w_ret | with_reducible apply w_par | with_reducible apply w_drop | with_reducible apply w_asgT | with_reducible apply w_retN | with_reducible apply w_brk | with_reducible apply w_cnt | with_reducible apply w_raise | with_reducible apply w_forI) | ((with_reducible apply gI); first | with_reducible apply wI_t | with_reducible apply wI_f | with_reducible apply wI_not) | with_reducible apply w_bl | with_reducible apply thn_nx | with_reducible apply w_int | with_reducible apply w_obj | with_reducible apply thn_rt | with_reducible apply lp_nx | with_reducible apply fnl_int | with_reducible apply fnl_bl | with_reducible apply fnl_non | with_reducible apply fnl_str | with_reducible apply fnl_nx | with_reducible apply thn_bk | with_reducible apply thn_ct | with_reducible apply thn_xc | with_reducible apply lp_rt | with_reducible apply lp_bk | with_reducible apply lp_xc | with_reducible apply w_itL | with_reducible apply w_itT | with_reducible apply w_itK)
local macro_rules | `(tactic| walk_at "p") => `(tactic| repeat walk_at "w")
local macro_rules | `(tactic| walk_at "w") => `(tactic| first | ((with_reducible apply gR); first | with_reducible refine w_var rfl ?_ | with_reducible apply w_cons | with_reducible apply w_c | with_reducible apply w_nil | with_reducible apply w_op | with_reducible apply w_ap | with_reducible apply w_call | with_reducible apply w_tst | with_reducible apply w_un | with_reducible apply w_tand | with_reducible apply w_tor | with_reducible apply w_tnot | with_reducible apply w_yes | with_reducible apply w_and | with_reducible apply w_or | with_reducible apply w_not | with_reducible apply w_if | with_reducible apply w_chain | with_reducible apply w_isi | with_reducible apply w_isi2 | with_reducible apply w_prop | with_reducible apply w_meth | with_reducible apply w_dget | with_reducible apply w_dnewF | with_reducible apply w_dnewT | with_reducible apply w_part | with_reducible apply w_noPart | with_reducible apply w_slLF | with_reducible apply w_slA | with_reducible apply w_ok | with_reducible apply w_ofO | with_reducible apply w_lcI | with_reducible apply w_seqI | with_reducible apply w_rng1 | with_reducible apply w_rng2 | with_reducible apply w_enum) | ((with_reducible apply gO); first | with_reducible apply wo_add | with_reducible apply wo_sub | with_reducible apply wo_lt | with_reducible apply wo_gt | with_reducible apply wo_eq | with_reducible apply wo_ne | with_reducible apply wo_le | with_reducible apply wo_ge | with_reducible apply wo_neg | with_reducible apply wo_eqS | with_reducible apply wo_neS | with_reducible apply wo_min | with_reducible apply wo_max | with_reducible apply wo_int | with_reducible apply wo_abs | with_reducible apply wo_tupL | with_reducible apply wo_tupT | with_reducible refine wo_tup (by with_unfolding_all rfl) ?_ | with_reducible refine wo_lstF (by with_unfolding_all rfl) ?_ | with_reducible refine wo_lstT (by with_unfolding_all rfl) ?_ | with_reducible apply wo_fld0 | with_reducible apply wo_fldH0 | with_reducible apply wo_fld1 | with_reducible apply wo_fld2 | with_reducible apply wo_fldW0 | with_reducible apply wo_fldW1 | with_reducible apply wo_fldW2) | ((with_reducible apply gS); first | with_reducible apply w_seq | with_reducible apply w_asg | with_reducible apply w_sif | with_reducible apply w_next | with_reducible apply w_ret | with_reducible apply w_par | with_reducible apply w_drop | with_reducible apply w_asgT | with_reducible apply w_retN | with_reducible apply w_brk | with_reducible apply w_cnt | with_reducible apply w_raise | with_reducible apply w_forI) | ((with_reducible apply gI); first | with_reducible apply wI_t | with_reducible apply wI_f | with_reducible apply wI_not) | with_reducible apply w_bl | with_reducible apply thn_nx | with_reducible apply w_int | with_reducible apply w_obj | with_reducible apply thn_rt | with_reducible apply lp_nx | with_reducible apply fnl_int | with_reducible apply fnl_bl | with_reducible apply fnl_non | with_reducible apply fnl_str | with_reducible apply fnl_nx | with_reducible apply thn_bk | with_reducible apply thn_ct | with_reducible apply thn_xc | with_reducible apply lp_rt | with_reducible apply lp_bk | with_reducible apply lp_xc | with_reducible apply w_itL | with_reducible apply w_itT | with_reducible apply w_itK)
local macro_rules | `(tactic| walk_at "p") => `(tactic| repeat walk_at "w")
/-! W27a: a web drawn (k27). -/
section
variable {C Y : Store} {Q : D → Store → Prop} {X : Exc → Store → Prop} {N i : Nat} {f : Int × Int → Int}
theorem app7 {S : Store} {a : Option Cell} : (S ++ [a])[S.length]? = some a := by simp
theorem set7 {S : Store} {a b : Option Cell} : (S ++ [a]).set S.length b = S ++ [b] := by simp
theorem cut7 {S T : Store} : (S ++ T).take S.length = S := by simp
theorem take7 {n : Int} (hB : Bg i C) (hn : 0 < n) (hn2 : n < 4611686018427387904) (Y : Store) (h : ∀ r C', 0 ≤ r → r < n → To i C C' → Q (.int r) (C' ++ Y)) : wR (m_law_take [.cell i, .int n] (C ++ Y)) Q X := by
  obtain ⟨r, C', e, r0, r1, t⟩ := take_to hB hn hn2 Y
  exact w_of e (h r C' r0 r1 t)
theorem take7z {n : Int} (hB : Bg i C) (hn : 0 < n) (hn2 : n < 4611686018427387904) (h : ∀ r C', 0 ≤ r → r < n → To i C C' → Q (.int r) C') : wR (m_law_take [.cell i, .int n] C) Q X := by
  have z := take7 (Q := Q) (X := X) hB hn hn2 [] fun r C' r0 r1 t => by rw [List.append_nil]; exact h r C' r0 r1 t
  rw [List.append_nil] at z
  exact z
structure Dr (N : Nat) (m : Int) (L : List T3) : Prop where
  v : ∀ t ∈ L, ValidT N t ∧ t.2.2 ≤ m
theorem tot_m {m : Int} (m0 : 0 ≤ m) {k : Int × Int} : ∀ {L : List T3}, Dr N m L → tot L k ≤ L.length * m
  | [], _ => by simp [tot]
  | t :: L, h => by
    have ih := tot_m m0 (k := k) (L := L) ⟨fun s hs => h.v s (List.mem_cons_of_mem _ hs)⟩
    have ht := h.v t (List.mem_cons_self ..)
    have : ((L.length + 1 : Nat) : Int) * m = L.length * m + m := by
      rw [Int.natCast_add, Int.add_mul]
      omega
    rw [tot_cons, List.length_cons, this]
    split <;> omega
theorem Dr.fits {L : List T3} (h : Dr N 4000 L) (hN : N ≤ 60) (hl : L.length ≤ 25) : Fits N L ∧ FOk N (fL L) ∧ ∀ p, fL L p ≤ 100000 := by
  have b : ∀ p, fL L p ≤ 100000 := fun p => by
    have a := tot_m (by decide) (k := p) h
    show dg0 (sums L) p ≤ _
    rw [dg0_sums]
    have : (L.length : Int) * 4000 ≤ 25 * 4000 := Int.mul_le_mul_of_nonneg_right (by omega) (by decide)
    omega
  refine ⟨⟨hN, fun t ht => (h.v t ht).1, by omega, fun u v _ _ => by have := b (min (u : Int) v, max (u : Int) v); omega⟩, ?_, b⟩
  exact (sums_ok hN (L := L) ⟨fun t ht => (h.v t ht).1, fun k => by
    have := b k
    have e : fL L k = tot L k := dg0_sums L k
    omega⟩ (by omega)).fok
theorem web_fin {C' : Store} {L : List T3} {t3 t4 t5 : Option D} (hN : N ≤ 60) (hL : Dr N 4000 L) (hl : L.length ≤ 25) (t : To i C C') (q : ∀ f C', FOk N f → (∀ p, f p ≤ 100000) → To i C C' → Q (webD N f) C') :
    wS (b_law_web_2 ⟨C.length, [some (.cell i), some (.int N), some (.cell C.length), t3, t4, t5]⟩ (C' ++ [some (.lst (L.map triD))])) (fnl C.length Q X) := by
  obtain ⟨ft, fo, fb⟩ := hL.fits hN hl
  have cl := t.len
  unfold b_law_web_2
  walk_at "w"
  refine w_mkT ?_
  walk_at "p"
  refine w_of (make_ok (L := L) (d := .cell C.length) (ds := [.int N, .cell C.length]) ft (.inr (.inr (.inr ⟨C.length, rfl, by rw [← cl]; exact app7⟩))) rfl rfl) ?_
  refine fnl_p (cb_webB _ _ _) ?_
  rw [← cl, cut7]
  exact q _ _ fo fb t
theorem web_loop {S0 : Store} {m : Nat} (hB : Bg i C) (hN : N ≤ 60) (hm : m ≤ 25) (h2 : m = 0 ∨ 2 ≤ N) (tu : To i C S0) (q : ∀ f C', FOk N f → (∀ p, f p ≤ 100000) → To i C C' → Q (webD N f) C') :
    wS (loopN (itR 0 m) (Tgt.nm 3).M (sSeq b_law_web_1b_0 (sSeq b_law_web_1b_1 b_law_web_1b_2)) C.length (itR 0 m).n 0 [some (.cell i), some (.int N), some (.cell C.length), none, none, none] (S0 ++ [some (.lst [])])) (CT.thn b_law_web_2 C.length (fnl C.length Q X)) := by
  refine loopM (l := List.range m) (enc := fun k : Nat => .int (k : Int)) (pureR0 _) (fun j sl S => ∃ L C' t3 t4 t5, Dr N 4000 L ∧ L.length ≤ j ∧ To i C C' ∧ S = C' ++ [some (.lst (L.map triD))] ∧ sl = [some (.cell i), some (.int N), some (.cell C.length), t3, t4, t5]) ⟨[], S0, none, none, none, ⟨fun t ht => by cases ht⟩, Nat.le_refl _, tu, rfl, rfl⟩ ?_ ?_
  · rintro j k sl S hj ⟨L, C', t3, t4, t5, hL, hl, t, rfl, rfl⟩
    have jm : j < m := by have := (List.getElem?_eq_some_iff.mp hj).1; simpa using this
    have n2 : 2 ≤ N := by omega
    have cl := t.len
    refine ⟨_, rfl, ?_⟩
    walk_at "w"
    unfold b_law_web_1b_0
    walk_at "p"
    refine take7 t.bg (by omega) (by omega) _ fun u C2 u0 u1 t2 => ?_
    walk_at "p"
    unfold b_law_web_1b_1
    walk_at "p"
    refine take7 t2.bg (by omega) (by omega) _ fun w C3 w0 w1 t3 => ?_
    walk_at "p"
    refine wo_mod (by omega) ?_
    walk_at "p"
    unfold b_law_web_1b_2
    walk_at "p"
    refine w_append ?_
    walk_at "p"
    have l3 : C3.length = C.length := by rw [t3.len, t2.len, cl]
    refine ⟨by simp only [vL, ← l3, app7]; rfl, ?_⟩
    walk_at "p"
    refine take7 t3.bg (by decide) (by decide) _ fun a C4 a0 a1 t4 => ?_
    walk_at "p"
    refine take7 t4.bg (by decide) (by decide) _ fun b C5 b0 b1 t5 => ?_
    walk_at "p"
    refine take7 t5.bg (by decide) (by decide) _ fun c C6 c0 c1 t6 => ?_
    walk_at "p"
    have l6 : C6.length = C.length := by rw [t6.len, t5.len, t4.len, l3]
    obtain ⟨n, en, n0, n1⟩ : ∃ n : Int, ([.int 1, .int 2, .int a, .int b] : List D)[c.toNat]? = some (.int n) ∧ 0 ≤ n ∧ n ≤ 4000 := by
      have : c = 0 ∨ c = 1 ∨ c = 2 ∨ c = 3 := by omega
      rcases this with rfl | rfl | rfl | rfl
      · exact ⟨1, rfl, by decide, by decide⟩
      · exact ⟨2, rfl, by decide, by decide⟩
      · exact ⟨a, rfl, by omega, by omega⟩
      · exact ⟨b, rfl, by omega, by omega⟩
    refine wo_ix (xs := [.int 1, .int 2, .int a, .int b]) (k := c.toNat) rfl (by omega) en ?_
    walk_at "p"
    have v0 := Int.emod_nonneg (u + 1 + w) (show (N : Int) ≠ 0 by omega)
    have v1 := Int.emod_lt_of_pos (u + 1 + w) (show (0 : Int) < N by omega)
    have uv : u ≠ (u + 1 + w) % N := fun e => by
      have h1 : (u + 1 + w) % (N : Int) = if u + 1 + w < N then u + 1 + w else u + 1 + w - N := by
        split
        · exact Int.emod_eq_of_lt (by omega) (by omega)
        · rw [← Int.sub_emod_right]
          exact Int.emod_eq_of_lt (by omega) (by omega)
      rw [h1] at e
      split at e <;> omega
    refine ⟨C.length, L.map triD, by simp only [cL, ← l6, app7], Nat.le_refl _, by rw [List.length_map]; omega, ?_⟩
    refine lp_nx ⟨L ++ [(u, (u + 1 + w) % N, n)], C6, _, _, _, ⟨fun s hs => ?_⟩, by rw [List.length_append]; simp; omega, ((((t.trans t2).trans t3).trans t4).trans t5).trans t6, ?_, rfl⟩
    · rcases List.mem_append.mp hs with hs | hs
      · exact hL.v s hs
      · obtain rfl := List.mem_singleton.mp hs
        exact ⟨⟨u0, u1, v0, v1, uv, n0, by simp only; omega⟩, n1⟩
    · rw [← l6, set7, List.map_append]
      rfl
  · rintro sl S ⟨L, C', t3, t4, t5, hL, hl, t, rfl, rfl⟩
    rw [List.length_range] at hl
    exact thn_nx (web_fin hN hL (by omega) t q)
theorem law_web_w (hB : Bg i C) (hN : N ≤ 60) (q : ∀ f C', FOk N f → (∀ p, f p ≤ 100000) → To i C C' → Q (webD N f) C') : wR (m_law_web [.cell i, .int N] C) Q X := by
  rw [e_law_web]
  apply w_fin
  unfold b_law_web b_law_web_0
  walk_at "p"
  unfold b_law_web_1
  walk_at "p"
  refine wI_d (fun h2 => ?_) fun h2 => ?_
  · walk_at "p"
    refine take7 hB (by decide) (by decide) _ fun r C1 r0 r1 u1 => ?_
    refine ⟨r, rfl, inR_of (by omega) (by omega), ?_⟩
    exact web_loop hB hN (by omega) (.inr (by omega)) u1 q
  · walk_at "p"
    refine ⟨rfl, ?_⟩
    exact web_loop (m := 0) hB hN (Nat.zero_le _) (.inl rfl) (To.refl hB) q
end
/-! W27b: degrees, items, counts of a web (k27). -/
section
variable {C Y : Store} {Q : D → Store → Prop} {X : Exc → Store → Prop} {P : RS → Prop} {N M i : Nat} {f g : Int × Int → Int}
abbrev tI7 (l : List Int) : D := .tup (l.map .int)
theorem sum7 (l : List Int) (C : Store) : oSum [.lst (l.map .int)] C = some (.int l.sum, C) := by
  simp [oSum, vL]
theorem grid_at7 {u : Nat} (hu : u < N) : ((rowsOf N f).map fun r => D.lst (r.map .int))[u]? = some (.lst (((List.range N).map (w7 f u)).map .int)) := by
  rw [List.getElem?_map]
  unfold rowsOf
  rw [List.getElem?_map, List.getElem?_range hu]
  rfl
theorem row_at7 {u v : Nat} (hv : v < N) : (((List.range N).map (w7 f u)).map D.int)[v]? = some (.int (w7 f u v)) := by
  rw [List.getElem?_map, List.getElem?_map, List.getElem?_range hv]
  rfl
theorem cb_t7 (n : Nat) (l : List Int) : cb n (tI7 l) = true := cbL_ints _ _
theorem deg7_w (hN : N ≤ 60) (q : Q (tI7 (dg7 N f)) C) : wR (m_Web_degrees [webD N f] C) Q X := by
  rw [e_Web_degrees]
  apply w_fin
  unfold b_Web_degrees
  walk_at "p"
  refine ⟨_, rfl, ?_⟩
  refine lcY (l := rowsOf N f) (enc := fun r => .lst (r.map .int)) (pure_C _) (fun r => .int r.sum) (by simp [rowsOf]; omega) (fun r hr => ⟨_, rfl, fun acc => ?_⟩) (fun _ _ => rfl) ?_
  · walk_at "p"
    refine wo_of (sum7 r _) ?_
    exact ⟨rfl, rfl⟩
  rw [show ((rowsOf N f).map fun r => D.int r.sum) = (dg7 N f).map .int by rw [← rows_dg7, List.map_map]; rfl]
  walk_at "p"
  refine fnl_p (cb_t7 _ _) ?_
  rw [List.take_length]
  exact q
theorem item7_w {u v : Nat} (hu : u < N) (hv : v < N) (q : Q (.int (w7 f u v)) C) : wR (m_Web__getitem [webD N f, .tup [.int u, .int v]] C) Q X := by
  rw [e_Web__getitem]
  apply w_fin
  unfold b_Web__getitem b_Web__getitem_0
  refine w_seq ?_
  refine w_asgT (is := [2, 3]) ?_
  walk_at "p"
  refine ⟨_, _, rfl, rfl, ?_⟩
  walk_at "p"
  unfold b_Web__getitem_1
  walk_at "p"
  refine wo_ix (k := u) rfl rfl (grid_at7 hu) ?_
  walk_at "p"
  refine wo_ix (k := v) rfl rfl (row_at7 hv) ?_
  refine fnl_p rfl ?_
  rw [List.take_length]
  exact q
theorem filt7 {α : Type} {g : α → Int} {c : α → Bool} : ∀ {l : List α}, (∀ u ∈ l, c u = false → g u = 0) → ((l.filter c).map g).sum = (l.map g).sum
  | [], _ => rfl
  | u :: l, h => by
    have ih := filt7 (l := l) fun w hw => h w (List.mem_cons_of_mem _ hw)
    rw [List.map_cons, List.sum_cons, ← ih]
    cases k : c u with
    | true => rw [List.filter_cons_of_pos k, List.map_cons, List.sum_cons]
    | false => rw [List.filter_cons_of_neg (by simp [k]), h u (List.mem_cons_self ..) k, Int.zero_add]
theorem col7 (hf : FOk N f) (v : Nat) : (((List.range N).filter fun u => !decide (u = v)).map fun u => w7 f u v).sum = S7 N (w7 f v) := by
  rw [filt7 fun u _ k => by
    have : u = v := by simpa using k
    rw [this, w7_dia hf]]
  exact S7_cong fun u _ => w7_symm u v
theorem counts_right_w (hf : FOk N f) (q : Q (.bl true) C) : wR (m_law_counts_right [webD N f, .int N] C) Q X := by
  have hN := hf.n
  have l1 := ties_len (f := f) hf.n
  rw [e_law_counts_right]
  apply w_fin
  unfold b_law_counts_right b_law_counts_right_0
  walk_at "p"
  refine ⟨_, rfl, ?_⟩
  refine deg7_w hN ?_
  walk_at "p"
  refine wo_of (show oLen [tI7 (dg7 N f)] C = some (.int N, C) by simp [oLen, vS, dg7]) ?_
  walk_at "p"
  refine wI_d (fun _ => ?_) fun n => absurd rfl n
  walk_at "p"
  refine ⟨_, rfl, ?_⟩
  refine w_of (total_ok hN) ?_
  walk_at "p"
  refine wo_mul (by simp [cMul]) ?_
  walk_at "p"
  refine ⟨_, rfl, ?_⟩
  refine deg7_w hN ?_
  walk_at "p"
  refine wo_of (show oListOf false [tI7 (dg7 N f)] C = some (.lst ((dg7 N f).map .int), C) from rfl) ?_
  walk_at "p"
  refine wo_of (sum7 _ _) ?_
  rw [dg7_sum hf]
  walk_at "p"
  refine wI_d (fun _ => ?_) fun n => absurd rfl n
  walk_at "p"
  unfold b_law_counts_right_1
  walk_at "p"
  refine ⟨_, rfl, ?_⟩
  refine w_of (total_ok hN) ?_
  walk_at "p"
  refine lcY (l := tiesL N f) (enc := triD) (pure_C _) (fun t => .int t.2.2) (by omega) (fun t ht => ⟨_, rfl, fun acc => ?_⟩) (fun _ _ => rfl) ?_
  · walk_at "p"
    exact ⟨rfl, rfl⟩
  rw [show ((tiesL N f).map fun t => D.int t.2.2) = ((tiesL N f).map (·.2.2)).map .int by rw [List.map_map]; rfl]
  walk_at "p"
  refine wo_of (sum7 _ _) ?_
  walk_at "p"
  refine wI_d (fun _ => ?_) fun n => absurd rfl n
  walk_at "p"
  refine wI_d (fun _ => ?_) fun n => absurd rfl n
  walk_at "p"
  unfold b_law_counts_right_2
  walk_at "p"
  refine ⟨inR_of (by omega) (by omega), ?_⟩
  rw [show ((N : Int)).toNat = N by omega]
  refine loopM (l := List.range N) (enc := fun k : Nat => .int (k : Int)) (pureR0 _) (fun j sl S => S = C ∧ ∃ t2, sl = [some (webD N f), some (.int N), t2, none, none]) ⟨rfl, none, rfl⟩ ?_ ?_
  · rintro j v sl S hj ⟨rfl, t2, rfl⟩
    have hv : v < N := List.mem_range.mp (List.mem_of_getElem? hj)
    refine ⟨_, rfl, ?_⟩
    unfold b_law_counts_right_2b_0
    walk_at "p"
    refine ⟨_, rfl, ?_⟩
    refine deg7_w hN ?_
    walk_at "p"
    refine wo_ix (k := v) rfl rfl (show ((dg7 N f).map D.int)[v]? = some (.int (S7 N (w7 f v))) by rw [List.getElem?_map, dg7_at hv]; rfl) ?_
    walk_at "p"
    refine ⟨inR_of (by omega) (by omega), ?_⟩
    rw [show ((N : Int)).toNat = N by omega]
    refine lcM (l := List.range N) (enc := fun k : Nat => .int (k : Int)) (pureR0 _) (fun u => !decide (u = v)) (fun u => .int (w7 f u v)) (by simp; omega) (fun u hu => ⟨_, rfl, fun acc => ⟨?_, fun _ => ?_⟩⟩) (fun _ _ _ => rfl) ?_
    · walk_at "p"
      refine ⟨?_, rfl⟩
      congr 1
      exact decide_eq_decide.mpr ⟨fun h => by omega, fun h => by omega⟩
    · walk_at "p"
      refine w_ixO ?_
      walk_at "p"
      refine ⟨rfl, ?_⟩
      exact item7_w (List.mem_range.mp hu) hv ⟨rfl, rfl⟩
    rw [show ((List.range N).filter fun u => !decide (u = v)).map (fun u => D.int (w7 f u v)) = (((List.range N).filter fun u => !decide (u = v)).map fun u => w7 f u v).map .int by rw [List.map_map]; rfl]
    walk_at "p"
    refine wo_of (sum7 _ _) ?_
    rw [col7 hf]
    walk_at "p"
    refine wI_d (fun _ => ?_) fun n => absurd rfl n
    walk_at "p"
    exact ⟨rfl, _, rfl⟩
  · rintro sl S ⟨rfl, t2, rfl⟩
    walk_at "p"
    unfold b_law_counts_right_3
    walk_at "p"
    rw [List.take_length]
    exact q
theorem zip7 (xs ys : List Int) : zipD (xs.map .int) (ys.map .int) = (xs.zip ys).map fun p => D.tup [.int p.1, .int p.2] := by
  unfold zipD
  rw [List.zip_map, List.map_map]
  rfl
theorem within7_w (hN : N ≤ 60) (hg : FOk N g) (b : Bool) (hb : b = (tiesL N f).all fun t => decide (t.2.2 ≤ g (t.1, t.2.1))) (q : Q (.bl b) C) : wR (m_Web_within [webD N f, webD N g] C) Q X := by
  subst hb
  exact w_of (within_ok hN) q
theorem eq7_w (q : Q (.bl true) C) : wR (m_Web__eq [webD N f, webD N f] C) Q X := by
  refine w_of eq_web ?_
  rw [decide_eq_true rfl]
  exact q
end
/-! RB1f (split from RB1w): a web less another, where it has too few. -/
section
variable {C : Store} {Q : D → Store → Prop} {X : Exc → Store → Prop} {F : Fr} {P : RS → Prop} {N M i : Nat} {f g : Int × Int → Int} {n : Int}
theorem find_at {α : Type} {b : α → Bool} : ∀ {l : List α} {j : Nat} {x : α}, l[j]? = some x → (∀ y ∈ l.take j, b y = false) → b x = true → l.find? b = some x
  | [], j, x, h, _, _ => by simp at h
  | y :: l, 0, x, h, _, hb => by
    obtain rfl : y = x := Option.some.inj h
    rw [List.find?_cons, hb]
  | y :: l, j + 1, x, h, hn, hb => by
    have hy : b y = false := hn y (by simp)
    rw [List.find?_cons, hy]
    exact find_at (j := j) h (fun z hz => hn z (by simp [hz])) hb
theorem take_sn {α : Type} {l : List α} {j : Nat} {x : α} (h : l[j]? = some x) : l.take (j + 1) = l.take j ++ [x] := by
  obtain ⟨hj, e⟩ := List.getElem?_eq_some_iff.mp h
  rw [← e]
  exact (List.take_append_getElem hj).symm
/-- the first pair of which the other web has more -/
def fewP (N : Nat) (f g : Int × Int → Int) : Option (Int × Int) := (pairsL N).find? fun p => decide (f p < g p)
theorem few_tie (hf : FOk N f) : (tiesL N g).find? (fun t => decide (f (t.1, t.2.1) < t.2.2)) = (fewP N f g).map fun p => (p.1, p.2, g p) := by
  unfold tiesL fewP
  rw [List.find?_map, List.find?_filter]
  congr 1
  refine congrFun (congrArg _ ?_) _
  funext p
  show decide (decide (0 < g p) = true ∧ decide (f p < g p) = true) = _
  have := hf.b p
  by_cases h : f p < g p
  · rw [decide_eq_true h, decide_eq_true (show 0 < g p by omega)]
    rfl
  · rw [decide_eq_false h]
    simp
theorem sub_few {p : Int × Int} (hf : FOk N f) (hg : FOk N g) (hp : fewP N f g = some p) (q : X ⟨3, [pD p]⟩ C) : wR (m_Web__sub [webD N f, webD N g] C) Q X := by
  have l2 := ties_len (f := g) hf.n
  have ft := few_tie (N := N) (f := f) (g := g) hf
  rw [hp] at ft
  rw [e_Web__sub]
  apply w_fin
  unfold b_Web__sub b_Web__sub_0
  walk_at "p"
  refine ⟨true, rfl, ?_⟩
  walk_at "p"
  unfold b_Web__sub_1
  walk_at "p"
  refine wI_dt rfl ?_
  walk_at "p"
  unfold b_Web__sub_2
  walk_at "p"
  refine loop_p (pure_C ((tiesL N g).map triD)) (fun j sl S => S = C ∧ (∀ t ∈ (tiesL N g).take j, decide (f (t.1, t.2.1) < t.2.2) = false) ∧ ∃ t2 t3 t4, sl = [some (webD N f), some (webD N g), t2, t3, t4]) ⟨rfl, by simp, _, _, _, rfl⟩ ?_ ?_
  · rintro j y sl S hy ⟨rfl, hb, t2, t3, t4, rfl⟩
    rw [List.getElem?_map] at hy
    obtain ⟨t, ht, rfl⟩ := Option.map_eq_some_iff.mp hy
    have pt := pr_tie (List.mem_of_getElem? ht)
    refine ⟨_, rfl, ?_⟩
    unfold b_Web__sub_2b_0
    walk_at "p"
    refine wo_of (at_row pt.2.2 _) ?_
    walk_at "p"
    refine wo_of (at_col pt.2.2 _) ?_
    walk_at "p"
    refine wI_d (fun z => ?_) fun z => ?_
    · have e := find_at ht hb (decide_eq_true z)
      rw [ft] at e
      have e := Option.some.inj e
      subst e
      walk_at "p"
      refine ⟨rfl, ?_⟩
      walk_at "p"
      refine fnl_xc rfl ?_
      rw [List.take_length]
      exact q
    · walk_at "p"
      refine ⟨rfl, fun s hs => ?_, _, _, _, rfl⟩
      rw [take_sn ht] at hs
      rcases List.mem_append.mp hs with hs | hs
      · exact hb s hs
      · rw [List.mem_singleton.mp hs]
        exact decide_eq_false z
  · rintro sl S ⟨rfl, hb, t2, t3, t4, rfl⟩
    exfalso
    rw [List.length_map, List.take_length] at hb
    have := List.find?_some ft
    rw [hb _ (List.mem_of_find?_eq_some ft)] at this
    cases this
end
/-! RB2t: try, walked. -/
section
variable {C : Store} {Q : D → Store → Prop} {X : Exc → Store → Prop} {F : Fr} {P : RS → Prop} {N M i fl : Nat} {f g : Int × Int → Int} {m : Int} {s0 s1 s2 s3 s4 : Option D}
theorem w_try {v : Nat} {cs ds : List Nat} {mb mh : MS} (h : wS (mb F C) (fun r => match r with
      | .xc e sl C' => e.c ∈ cs ∧ wS (mh ⟨F.fl, sl.set v (some (.exn e.c e.fs))⟩ C') (fun r => ∃ d, r = .rt d C' ∧ nx d = true ∧ P (.rt d C'))
      | r => P r)) : wS (sTry v cs ds mb mh F C) P := by
  refine ⟨?_⟩
  have h := h.h
  unfold sTry
  cases em : mb F C with
  | xc e sl C' =>
    rw [em] at h
    simp only at h ⊢
    obtain ⟨a, g⟩ := h
    obtain ⟨d, er, nd, p⟩ := g.h
    rw [if_pos a, er]
    simp only [nd, and_self, if_true]
    exact p
  | _ => rw [em] at h; exact h
def tryP (v : Nat) (cs : List Nat) (mh : MS) (fl : Nat) (P : RS → Prop) : RS → Prop := fun r => match r with
  | .xc e sl C' => e.c ∈ cs ∧ wS (mh ⟨fl, sl.set v (some (.exn e.c e.fs))⟩ C') (fun r => ∃ d, r = .rt d C' ∧ nx d = true ∧ P (.rt d C'))
  | r => P r
theorem w_try' {v : Nat} {cs ds : List Nat} {mb mh : MS} (h : wS (mb F C) (tryP v cs mh F.fl P)) : wS (sTry v cs ds mb mh F C) P := w_try h
theorem fewP_none (h : fewP N f g = none) (hf : FOk N f) (hg : FOk N g) : ∀ p, g p ≤ f p := fun p => by
  by_cases z : p ∈ pairsL N
  · have := List.find?_eq_none.mp h p z
    simp at this
    omega
  · rw [hf.z p z, hg.z p z]
    omega
end
/-! W27c: rows moved, webs fitting (k27). -/
section
variable {C Y : Store} {Q : D → Store → Prop} {X : Exc → Store → Prop} {P : RS → Prop} {N M i : Nat} {f g h : Int × Int → Int} {os : List Nat}
theorem fits_yes (hf : FOk N f) (hg : FOk N g) (b : ∀ p, f p ≤ g p) (q : Q (.bl true) C) : wR (m_law_fits [webD N f, webD N g] C) Q X := by
  rw [e_law_fits]
  apply w_fin
  unfold b_law_fits
  refine w_try' ?_
  unfold b_law_fitst_
  walk_at "p"
  refine w_eqO ?_
  walk_at "p"
  refine w_binO ?_
  walk_at "p"
  refine w_binO ?_
  walk_at "p"
  refine ⟨rfl, ?_⟩
  refine sub_w hg hf b ?_
  walk_at "p"
  refine ⟨rfl, ?_⟩
  refine add_w (hg.sub hf b) hf (fun p => by have := (hg.b p).2; show g p - f p + f p ≤ _; omega) ?_
  rw [show (fun k => (fun k => g k - f k) k + f k) = g from funext fun k => by show g k - f k + f k = g k; omega]
  walk_at "p"
  refine ⟨rfl, ?_⟩
  refine eq7_w ?_
  refine ⟨true, rfl, ?_⟩
  refine fnl_p (n := C.length) (Q := Q) (E := X) (C := C) (d := .bl true) rfl ?_
  rw [List.take_length]
  exact q
theorem fits_no {p : Int × Int} (hf : FOk N f) (hg : FOk N g) (hp : fewP N g f = some p) (q : Q (.bl false) C) : wR (m_law_fits [webD N f, webD N g] C) Q X := by
  have pm := List.mem_of_find?_eq_some hp
  have pl := mem_pairsI.mp pm
  have ps : g p < f p := by
    have := List.find?_some hp
    simpa using this
  rw [e_law_fits]
  apply w_fin
  unfold b_law_fits
  refine w_try' ?_
  unfold b_law_fitst_
  walk_at "p"
  refine w_eqO ?_
  walk_at "p"
  refine w_binO ?_
  walk_at "p"
  refine w_binO ?_
  walk_at "p"
  refine ⟨rfl, ?_⟩
  refine sub_few hg hf hp ?_
  obtain ⟨u, v⟩ := p
  obtain ⟨a, rfl⟩ : ∃ a : Nat, u = (a : Int) := ⟨u.toNat, by simp only at pl; omega⟩
  obtain ⟨b, rfl⟩ : ∃ b : Nat, v = (b : Int) := ⟨v.toNat, by simp only at pl; omega⟩
  simp only at pl
  have ab : a < b := by omega
  refine ⟨List.mem_singleton.mpr rfl, ?_⟩
  unfold b_law_fitsx_ b_law_fitsx_0
  refine w_seq ?_
  refine w_asgT (is := [3, 4]) ?_
  walk_at "p"
  refine wo_of (show oXf 3 0 (.exn 3 [pD ((a : Int), (b : Int))]) C = some (pD ((a : Int), (b : Int)), C) from rfl) ?_
  refine ⟨_, _, rfl, rfl, ?_⟩
  walk_at "p"
  unfold b_law_fitsx_1
  walk_at "p"
  refine wI_d (fun _ => ?_) fun n => absurd (by omega) n
  walk_at "p"
  refine w_ixO ?_
  walk_at "p"
  refine ⟨rfl, ?_⟩
  refine item7_w (u := a) (v := b) (by omega) (by omega) ?_
  walk_at "p"
  refine w_ixO ?_
  walk_at "p"
  refine ⟨rfl, ?_⟩
  refine item7_w (u := a) (v := b) (by omega) (by omega) ?_
  rw [w7_up ab, w7_up ab]
  walk_at "p"
  refine wI_d (fun _ => ?_) fun n => absurd ps n
  walk_at "p"
  refine ⟨_, rfl, rfl, ?_⟩
  refine fnl_p (n := C.length) (Q := Q) (E := X) (C := C) (d := .bl false) rfl ?_
  rw [List.take_length]
  exact q
theorem add7 {a b : Int × Int → Int} {A B : Int} (ha : FOk N a) (hb : FOk N b) (la : ∀ p, a p ≤ A) (lb : ∀ p, b p ≤ B) (h : A + B ≤ 1000000000) : FOk N (fun k => a k + b k) ∧ (∀ p, a p + b p ≤ A + B) ∧ ∀ p, a p + b p ≤ 1000000000 :=
  ⟨ha.add hb fun p => by have := la p; have := lb p; omega, fun p => by have := la p; have := lb p; omega, fun p => by have := la p; have := lb p; omega⟩
theorem mul7 {a : Int × Int → Int} {n : Int} (ha : FOk N a) (la : ∀ p, a p ≤ 200000) (n0 : 0 ≤ n) (n1 : n ≤ 210) : FOk N (fun k => a k * n) ∧ (∀ p, a p * n ≤ 42000000) ∧ ∀ p, a p * n ≤ 1000000000 := by
  have b : ∀ p, a p * n ≤ 42000000 := fun p => by
    have h1 : a p * n ≤ 200000 * n := Int.mul_le_mul_of_nonneg_right (la p) n0
    omega
  exact ⟨ha.mul n0 fun p => by have := b p; omega, b, fun p => by have := b p; omega⟩
theorem fL_nil7 (k : Int × Int) : fL [] k = 0 := by
  show dg0 (sums []) _ = _
  rw [dg0_sums]
  rfl
theorem make0 {F : Fr} {a : MA} (hN : N ≤ 60) (ha : a F C = .ok [.int N] C) : mMake false 0 3 m_Web__init [.kt []] a F C = .ok (webD N fun _ => 0) C := by
  have e := make_ok (N := N) (L := []) (C := C) (d := .kt []) (ds := [.int N]) (dds := [.kt []]) (F := F) (a := a) ⟨hN, (fun t ht => by cases ht), Nat.zero_le _, (fun u v _ _ => by rw [fL_nil7]; decide)⟩ (.inr (.inr (.inl rfl))) ha rfl
  rw [show fL [] = fun _ => 0 from funext fL_nil7] at e
  exact e
theorem eqn7 {A B : Prop} (h : B) : ∃ b, D.bl (if true = true then !true else true) = .bl b ∧ wI b A B := ⟨false, rfl, ⟨h⟩⟩
theorem eqy7 {A B : Prop} (h : A) : ∃ b, D.bl (if false = true then !true else true) = .bl b ∧ wI b A B := ⟨true, rfl, ⟨h⟩⟩
theorem sums_right_w {n : Int} (hf : FOk N f) (hg : FOk N g) (hh : FOk N h) (bf : ∀ p, f p ≤ 100000) (bg : ∀ p, g p ≤ 100000) (bh : ∀ p, h p ≤ 100000) (n0 : 0 ≤ n) (n1 : n ≤ 199) (q : Q (.bl true) C) : wR (m_law_sums_right [webD N f, webD N g, webD N h, .int n] C) Q X := by
  have hN := hf.n
  rw [e_law_sums_right]
  apply w_fin
  unfold b_law_sums_right b_law_sums_right_0
  walk_at "p"
  refine w_eqO ?_
  walk_at "p"
  refine w_binO ?_
  walk_at "p"
  refine w_binO ?_
  walk_at "p"
  refine ⟨rfl, ?_⟩
  have fg := add7 hf hg bf bg (by decide)
  refine add_w hf hg fg.2.2 ?_
  walk_at "p"
  refine ⟨rfl, ?_⟩
  refine sub_w fg.1 hg (fun p => by have := (hf.b p).1; show g p ≤ f p + g p; omega) ?_
  rw [show (fun k => (fun k => f k + g k) k - g k) = f from funext fun k => by show f k + g k - g k = f k; omega]
  walk_at "p"
  refine ⟨rfl, ?_⟩
  refine eq7_w ?_
  refine ⟨true, rfl, ?_⟩
  refine eqn7 ?_
  walk_at "p"
  refine w_eqO ?_
  walk_at "p"
  refine w_binO ?_
  walk_at "p"
  refine ⟨rfl, ?_⟩
  refine add_w hf hg fg.2.2 ?_
  refine w_binO ?_
  walk_at "p"
  refine ⟨rfl, ?_⟩
  have gf := add7 hg hf bg bf (by decide)
  refine add_w hg hf gf.2.2 ?_
  rw [show (fun k => g k + f k) = fun k => f k + g k from funext fun k => Int.add_comm _ _]
  refine ⟨rfl, ?_⟩
  refine eq7_w ?_
  refine ⟨true, rfl, ?_⟩
  refine eqn7 ?_
  walk_at "p"
  unfold b_law_sums_right_1
  walk_at "p"
  refine w_eqO ?_
  walk_at "p"
  refine w_binO ?_
  walk_at "p"
  refine w_binO ?_
  walk_at "p"
  refine ⟨rfl, ?_⟩
  refine add_w hf hg fg.2.2 ?_
  walk_at "p"
  refine ⟨rfl, ?_⟩
  have fgh := add7 fg.1 hh fg.2.1 bh (by decide)
  refine add_w fg.1 hh fgh.2.2 ?_
  refine w_binO ?_
  walk_at "p"
  refine w_binO ?_
  walk_at "p"
  refine ⟨rfl, ?_⟩
  have gh := add7 hg hh bg bh (by decide)
  refine add_w hg hh gh.2.2 ?_
  refine ⟨rfl, ?_⟩
  have fgh2 := add7 hf gh.1 bf gh.2.1 (by decide)
  refine add_w hf gh.1 fgh2.2.2 ?_
  rw [show (fun k => f k + (fun k => g k + h k) k) = fun k => (fun k => f k + g k) k + h k from funext fun k => (Int.add_assoc _ _ _).symm]
  refine ⟨rfl, ?_⟩
  refine eq7_w ?_
  refine ⟨true, rfl, ?_⟩
  refine eqn7 ?_
  walk_at "p"
  refine w_eqO ?_
  refine w_mulL ?_
  walk_at "p"
  refine w_binO ?_
  walk_at "p"
  refine ⟨rfl, ?_⟩
  refine add_w hf hg fg.2.2 ?_
  refine ⟨n, rfl, rfl, ?_⟩
  have m1 := mul7 (N := N) (n := n) fg.1 fg.2.1 n0 (by omega)
  refine rmul_w fg.1 n0 m1.2.2 ?_
  have mf := mul7 (N := N) (n := n) hf (fun p => by have := bf p; omega) n0 (by omega)
  have mg := mul7 (N := N) (n := n) hg (fun p => by have := bg p; omega) n0 (by omega)
  refine w_binO ?_
  refine w_mulR ?_
  walk_at "p"
  first | refine ⟨rfl, ?_⟩ | refine ⟨n, rfl, rfl, ?_⟩
  refine mul_w hf n0 mf.2.2 ?_
  refine w_mulL ?_
  walk_at "p"
  first | refine ⟨rfl, ?_⟩ | refine ⟨n, rfl, rfl, ?_⟩
  refine rmul_w hg n0 mg.2.2 ?_
  refine ⟨rfl, ?_⟩
  have fgm := add7 mf.1 mg.1 mf.2.1 mg.2.1 (by decide)
  refine add_w mf.1 mg.1 fgm.2.2 ?_
  rw [show (fun k => (fun k => f k * n) k + (fun k => g k * n) k) = fun k => (fun k => f k + g k) k * n from funext fun k => (Int.add_mul _ _ _).symm]
  refine ⟨rfl, ?_⟩
  refine eq7_w ?_
  refine ⟨true, rfl, ?_⟩
  refine eqn7 ?_
  walk_at "p"
  unfold b_law_sums_right_2
  walk_at "p"
  refine w_eqO ?_
  walk_at "p"
  refine w_binO ?_
  walk_at "p"
  refine ⟨rfl, ?_⟩
  refine sub_w hf hf (fun p => Int.le_refl _) ?_
  rw [show (fun k => f k - f k) = fun _ => 0 from funext fun k => Int.sub_self _]
  refine w_mkT ?_
  walk_at "p"
  refine w_of (make0 hN rfl) ?_
  refine ⟨rfl, ?_⟩
  refine eq7_w ?_
  refine ⟨true, rfl, ?_⟩
  refine eqn7 ?_
  walk_at "p"
  refine w_eqO ?_
  refine w_mulL ?_
  walk_at "p"
  first | refine ⟨rfl, ?_⟩ | refine ⟨0, rfl, rfl, ?_⟩
  have m0 := mul7 (N := N) (n := 0) hf (fun p => by have := bf p; omega) (by decide) (by decide)
  refine rmul_w hf (by decide) m0.2.2 ?_
  rw [show (fun k => f k * 0) = fun _ => 0 from funext fun k => Int.mul_zero _]
  refine w_mkT ?_
  walk_at "p"
  refine w_of (make0 hN rfl) ?_
  refine ⟨rfl, ?_⟩
  refine eq7_w ?_
  refine ⟨true, rfl, ?_⟩
  refine eqn7 ?_
  walk_at "p"
  unfold b_law_sums_right_3
  walk_at "p"
  refine w_eqO ?_
  walk_at "p"
  refine w_binO ?_
  refine w_mulL ?_
  walk_at "p"
  first | refine ⟨rfl, ?_⟩ | refine ⟨n + 3, rfl, rfl, ?_⟩
  have m3 := mul7 (N := N) (n := n + 3) hf (fun p => by have := bf p; omega) (by omega) (by omega)
  refine rmul_w hf (by omega) m3.2.2 ?_
  refine w_mulL ?_
  walk_at "p"
  first | refine ⟨rfl, ?_⟩ | refine ⟨n, rfl, rfl, ?_⟩
  refine rmul_w hf n0 mf.2.2 ?_
  refine ⟨rfl, ?_⟩
  refine sub_w m3.1 mf.1 (fun p => by have := (hf.b p).1; show f p * n ≤ f p * (n + 3); rw [Int.mul_add]; omega) ?_
  rw [show (fun k => (fun k => f k * (n + 3)) k - (fun k => f k * n) k) = fun k => f k * 3 from funext fun k => by show f k * (n + 3) - f k * n = _; rw [Int.mul_add]; omega]
  refine w_mulL ?_
  walk_at "p"
  first | refine ⟨rfl, ?_⟩ | refine ⟨3, rfl, rfl, ?_⟩
  have mm := mul7 (N := N) (n := 3) hf (fun p => by have := bf p; omega) (by decide) (by decide)
  refine rmul_w hf (by decide) mm.2.2 ?_
  refine ⟨rfl, ?_⟩
  refine eq7_w ?_
  refine ⟨true, rfl, ?_⟩
  refine eqy7 ?_
  walk_at "p"
  refine w_eqO ?_
  refine w_mulL ?_
  walk_at "p"
  first | refine ⟨rfl, ?_⟩ | refine ⟨1, rfl, rfl, ?_⟩
  have m1h := mul7 (N := N) (n := 1) hh (fun p => by have := bh p; omega) (by decide) (by decide)
  refine rmul_w hh (by decide) m1h.2.2 ?_
  rw [show (fun k => h k * 1) = h from funext fun k => Int.mul_one _]
  walk_at "p"
  refine ⟨rfl, ?_⟩
  refine eq7_w ?_
  refine ⟨true, rfl, ?_⟩
  refine eqy7 ?_
  walk_at "p"
  refine ⟨_, rfl, ?_⟩
  walk_at "p"
  refine w_binO ?_
  walk_at "p"
  refine ⟨rfl, ?_⟩
  refine add_w hf hg fg.2.2 ?_
  walk_at "p"
  refine within7_w hN fg.1 true (Eq.symm ?_) ?_
  · rw [List.all_eq_true]
    intro t ht
    obtain ⟨p, hp, rfl⟩ := List.mem_map.mp ht
    have := (hg.b p).1
    exact decide_eq_true (by show f p ≤ f p + g p; omega)
  refine fnl_p (n := C.length) (Q := Q) (E := X) (C := C) (d := .bl true) rfl ?_
  rw [List.take_length]
  exact q
theorem law_sum_w {t : Int} (hN : N ≤ 60) (h0 : 0 ≤ t) (h1 : t ≤ 1000) (q : Q (tI7 (dg7 N fun k => f k + t * g k)) C) : wR (m_law_sum [tI7 (dg7 N f), tI7 (dg7 N g), .int t] C) Q X := by
  rw [e_law_sum]
  apply w_fin
  unfold b_law_sum
  walk_at "p"
  refine w_zipX ?_
  walk_at "p"
  refine ⟨_, _, _, _, rfl, rfl, rfl, ?_⟩
  rw [zip7]
  refine lcY (l := (dg7 N f).zip (dg7 N g)) (enc := fun p => D.tup [.int p.1, .int p.2]) (pure_C _) (fun p => .int (p.1 + t * p.2)) (by rw [List.length_zip, dg7_len, dg7_len]; omega) (fun p hp => ⟨_, rfl, fun acc => ?_⟩) (fun _ _ => rfl) ?_
  · walk_at "p"
    refine wo_mul (by simp [cMul]; omega) ?_
    walk_at "p"
    exact ⟨rfl, rfl⟩
  rw [show ((dg7 N f).zip (dg7 N g)).map (fun p => D.int (p.1 + t * p.2)) = (((dg7 N f).zip (dg7 N g)).map fun p => p.1 + t * p.2).map .int by rw [List.map_map]; rfl, dg7_add]
  walk_at "p"
  refine fnl_p (cb_t7 _ _) ?_
  rw [List.take_length]
  exact q
end
/-! W27d: places renamed, rows moved (k27). -/
theorem psum7 {g : Nat → Int} {a b : List Nat} (h : a.Perm b) : (a.map g).sum = (b.map g).sum := by
  induction h with
  | nil => rfl
  | cons x _ ih => rw [List.map_cons, List.map_cons, List.sum_cons, List.sum_cons, ih]
  | swap x y l => simp only [List.map_cons, List.sum_cons]; omega
  | trans _ _ h1 h2 => exact h1.trans h2
def oN (os : List Nat) (v : Nat) : Nat := os.getD v 0
def mv7 (os : List Nat) (row : List Int) : Nat → List Int
  | 0 => row
  | j + 1 => (mv7 os row j).set (oN os j) (row.getD j 0)
section
variable {N : Nat} {f g : Int × Int → Int} {os : List Nat} {row : List Int}
theorem mv7_len : ∀ j, (mv7 os row j).length = row.length
  | 0 => rfl
  | j + 1 => by
    show ((mv7 os row j).set _ _).length = _
    rw [List.length_set, mv7_len j]
theorem oAt_N (v : Nat) : oAt os (v : Int) = (oN os v : Int) := rfl
theorem oN_lt (h : Ord N os) {v : Nat} (hv : v < N) : oN os v < N := by
  have := (h.at_ (x := (v : Int)) (by omega) (by omega)).2
  rw [oAt_N] at this
  omega
theorem oN_inj (h : Ord N os) {u v : Nat} (hu : u < N) (hv : v < N) (e : oN os u = oN os v) : u = v := by
  have := h.inj (x := (u : Int)) (y := (v : Int)) (by omega) (by omega) (by omega) (by omega) (by rw [oAt_N, oAt_N, e])
  omega
theorem os_map (h : Ord N os) : os = (List.range N).map (oN os) := by
  have l := h.len
  refine List.ext_getElem (by simp [l]) fun i h1 h2 => ?_
  rw [List.getElem_map, List.getElem_range]
  unfold oN
  rw [List.getD_eq_getElem?_getD, List.getElem?_eq_getElem h1]
  rfl
theorem oN_sur (h : Ord N os) {i : Nat} (hi : i < N) : ∃ v, v < N ∧ oN os v = i := by
  have : i ∈ os := h.p.mem_iff.mpr (List.mem_range.mpr hi)
  rw [os_map h] at this
  obtain ⟨v, hv, e⟩ := List.mem_map.mp this
  exact ⟨v, List.mem_range.mp hv, e⟩
theorem S7_perm (h : Ord N os) (g : Nat → Int) : S7 N (fun u => g (oN os u)) = S7 N g := by
  have a := psum7 (g := g) h.p
  rw [os_map h, List.map_map] at a
  exact a
theorem mv7_at (h : Ord N os) (hr : row.length = N) : ∀ j, j ≤ N → ∀ v, v < j → (mv7 os row j)[oN os v]? = row[v]?
  | 0, _, v, hv => by omega
  | j + 1, hj, v, hv => by
    show ((mv7 os row j).set (oN os j) (row.getD j 0))[oN os v]? = _
    by_cases e : v = j
    · subst e
      rw [List.getElem?_set_self (by rw [mv7_len, hr]; exact oN_lt h (by omega)), List.getD_eq_getElem?_getD, List.getElem?_eq_getElem (by omega)]
      rfl
    · rw [List.getElem?_set_ne fun k => e (oN_inj h (by omega) (by omega) k).symm]
      exact mv7_at h hr j (by omega) v (by omega)
theorem w7_ren (h : Ord N os) (hf : FOk N f) {u v : Nat} (hu : u < N) (hv : v < N) : w7 (fL (renL N f os)) (oN os u) (oN os v) = w7 f u v := by
  have key : ∀ {a b : Nat}, a < b → b < N → w7 (fL (renL N f os)) (oN os a) (oN os b) = w7 f a b := fun {a b} ab bN => by
    rw [w7_up ab]
    exact (fL_ren h hf).1 ((a : Int), (b : Int)) (mem_pairsI.mpr ⟨by simp only; omega, by simp only; omega, by simp only; omega⟩) rfl
  by_cases e : u = v
  · rw [e, w7_dia hf, w7_dia (hf.ren h)]
  · by_cases l : u < v
    · exact key l hv
    · rw [w7_symm, w7_symm u v]
      exact key (by omega) hu
theorem dg7_ren (h : Ord N os) (hf : FOk N f) : mv7 os (dg7 N f) N = dg7 N (fL (renL N f os)) := by
  refine List.ext_getElem? fun i => ?_
  by_cases hi : i < N
  · obtain ⟨v, hv, rfl⟩ := oN_sur h hi
    rw [mv7_at h dg7_len N (Nat.le_refl _) v hv, dg7_at hv, dg7_at hi, show S7 N (w7 (fL (renL N f os)) (oN os v)) = S7 N fun u => w7 (fL (renL N f os)) (oN os v) (oN os u) from (S7_perm h _).symm]
    congr 1
    exact S7_cong fun u hu => (w7_ren h hf hv hu).symm
  · rw [List.getElem?_eq_none (by rw [mv7_len, dg7_len]; omega), List.getElem?_eq_none (by rw [dg7_len]; omega)]
theorem ren_add7 (h : Ord N os) (hf : FOk N f) (hg : FOk N g) (hfg : FOk N fun k => f k + g k) : fL (renL N (fun k => f k + g k) os) = fun k => fL (renL N f os) k + fL (renL N g os) k := by
  funext q
  by_cases z : ∃ p ∈ pairsL N, renK os p = q
  · obtain ⟨p, hp, e⟩ := z
    rw [(fL_ren h hfg).1 p hp e, (fL_ren h hf).1 p hp e, (fL_ren h hg).1 p hp e]
  · have n : ∀ p ∈ pairsL N, renK os p ≠ q := fun p hp e => z ⟨p, hp, e⟩
    rw [(fL_ren h hfg).2 n, (fL_ren h hf).2 n, (fL_ren h hg).2 n]
    rfl
end
/-! PZ (split from LSTc). -/
section
theorem pure_Z {α : Type} {l : List α} {enc : α → D} : PureIt (prI (itC (l.map enc))) (((List.range l.length).zip l).map fun p => D.tup [.int (p.1 : Nat), enc p.2]) := by
  have h := pure_P (pure_C (l.map enc))
  rw [List.length_map, List.zip_map_right, List.map_map] at h
  exact h
end
/-! W27e: rows moved, ties that cross: walked (k27). -/
section
variable {C Y : Store} {Q : D → Store → Prop} {X : Exc → Store → Prop} {P : RS → Prop} {N M i : Nat} {f g h : Int × Int → Int} {os : List Nat} {row : List Int}
theorem setL7 {fl i j : Nat} {sl : List (Option D)} {me mo mi : ME} (h : wR (me ⟨fl, sl⟩ C) (fun v C1 => wR (mo ⟨fl, sl⟩ C1) (fun o C2 => wR (mi ⟨fl, sl⟩ C2) (fun x C3 => x = .int j ∧ o = .cell i ∧ fl ≤ i ∧ ∃ xs, C3[i]? = some (some (.lst xs)) ∧ j < xs.length ∧ P (.nx sl (C3.set i (some (.lst (xs.set j v)))))) noX) noX) noX) : wS (sSetL me mo mi ⟨fl, sl⟩ C) P := by
  refine w_setL (w_mono h (fun v C1 g => w_mono g (fun o C2 g => w_mono g (fun x C3 g => ?_) fun _ _ z => z.elim) fun _ _ z => z.elim) fun _ _ z => z.elim)
  obtain ⟨rfl, rfl, hi, xs, hx, hj, q⟩ := g
  have e : ixN xs.length (j : Int) = some j := by
    have := ixN_at (n := xs.length) (i := (j : Int)) (by omega) (by omega)
    rw [this]
    congr 1
  exact ⟨(j : Int), i, xs, j, _, rfl, by simp only [cL, hx], e, wr_hi hi, q⟩
theorem moved7_w (ho : Ord N os) (hN : N ≤ 60) (hr : row.length = N) (q : Q (tI7 (mv7 os row N)) C) : wR (m_moved [tI7 row, ordD os] C) Q X := by
  have ol := ho.len
  rw [e_moved]
  apply w_fin
  unfold b_moved b_moved_0
  walk_at "p"
  refine wo_of (show oListOf true [tI7 row] C = some (.cell C.length, C ++ [some (.lst (row.map .int))]) from rfl) ?_
  walk_at "p"
  unfold b_moved_1
  walk_at "p"
  refine loopM (l := (List.range row.length).zip row) (enc := fun p => D.tup [.int (p.1 : Nat), .int p.2]) pure_Z (fun j sl S => ∃ t3 t4, S = C ++ [some (.lst ((mv7 os row j).map .int))] ∧ sl = [some (tI7 row), some (ordD os), some (.cell C.length), t3, t4]) ⟨none, none, rfl, rfl⟩ ?_ ?_
  · rintro j p sl S hj ⟨t3, t4, rfl, rfl⟩
    obtain ⟨k, x⟩ := p
    obtain ⟨hk, hp⟩ := List.getElem?_zip_eq_some.mp hj
    have kj : j = k := by
      have := (List.getElem?_eq_some_iff.mp hk).2
      simpa using this
    subst kj
    have jl := (List.getElem?_eq_some_iff.mp hp).1
    have ml := mv7_len (os := os) (row := row) j
    have nx : mv7 os row (j + 1) = (mv7 os row j).set (oN os j) x := by
      show (mv7 os row j).set (oN os j) (row.getD j 0) = _
      rw [List.getD_eq_getElem?_getD, hp]
      rfl
    refine ⟨_, rfl, ?_⟩
    unfold b_moved_1b_0
    refine setL7 (i := C.length) (j := oN os j) ?_
    walk_at "p"
    refine wo_of (ord_ix (os := os) (x := (j : Int)) (by omega) (by omega) _) ?_
    refine ⟨rfl, rfl, Nat.le_refl _, _, app7, by rw [List.length_map, ml]; exact Nat.lt_of_lt_of_eq (oN_lt ho (by omega)) hr.symm, ?_⟩
    rw [set7]
    refine lp_nx ⟨_, _, ?_, rfl⟩
    rw [nx, List.map_set]
  · rintro sl S ⟨t3, t4, rfl, rfl⟩
    have zl : ((List.range row.length).zip row).length = N := by rw [List.length_zip, List.length_range]; omega
    rw [zl]
    walk_at "p"
    unfold b_moved_2
    walk_at "p"
    refine wo_of (show oTupOf [.cell C.length] (C ++ [some (.lst ((mv7 os row N).map .int))]) = some (tI7 (mv7 os row N), C ++ [some (.lst ((mv7 os row N).map .int))]) by simp only [oTupOf, vL, app7]; rfl) ?_
    refine fnl_p (cb_t7 _ _) ?_
    rw [cut7]
    exact q
theorem cross7_w {h : Nat} (hN : N ≤ 60) (hh : h ≤ N) (q : Q (.int (S7 h (fun u => S7 (N - h) fun j => w7 f u (h + j)))) C) : wR (m_Web_crossing [webD N f, .lst ((List.range h).map fun k : Nat => .int (k : Int)), .lst ((List.range (N - h)).map fun k : Nat => .int ((h + k : Nat) : Int))] C) Q X := by
  rw [e_Web_crossing]
  apply w_fin
  unfold b_Web_crossing
  walk_at "p"
  refine w_lc2i ?_
  walk_at "p"
  refine lc2Y (l := List.range h) (enc := fun k : Nat => .int (k : Int)) (enc2 := fun k : Nat => .int ((h + k : Nat) : Int)) (fun _ => List.range (N - h)) (fun u j => .int (w7 f u (h + j))) 60 (pure_C _) (fun _ _ => by rw [List.length_range]; omega) (by rw [List.length_range]; omega) (by decide) (fun u hu => ?_) (fun _ _ _ _ => rfl) ?_
  · have hu := List.mem_range.mp hu
    refine ⟨_, rfl, fun acc => ?_, fun j hj => ?_⟩
    · walk_at "p"
      exact ⟨rfl, pure_C _⟩
    · have hj := List.mem_range.mp hj
      refine ⟨_, rfl, fun acc => ?_⟩
      walk_at "p"
      refine wo_ix (k := u) rfl rfl (grid_at7 (by omega)) ?_
      walk_at "p"
      refine wo_ix (k := h + j) rfl rfl (row_at7 (by omega)) ?_
      exact ⟨rfl, rfl⟩
  walk_at "p"
  have e : (List.range h).flatMap (fun u => (List.range (N - h)).map fun j => D.int (w7 f u (h + j))) = ((List.range h).flatMap fun u => (List.range (N - h)).map fun j => w7 f u (h + j)).map .int := by
    rw [List.map_flatMap]
    congr 1
    funext u
    rw [List.map_map]
    rfl
  rw [e]
  refine wo_of (sum7 _ _) ?_
  have e2 : ((List.range h).flatMap fun u => (List.range (N - h)).map fun j => w7 f u (h + j)).sum = S7 h fun u => S7 (N - h) fun j => w7 f u (h + j) := by
    have z := flat_S7 (fun u => (List.range (N - h)).map fun j => w7 f u (h + j)) id h
    rw [List.map_id] at z
    rw [z]
    exact S7_cong fun u _ => by rw [List.map_id]; rfl
  rw [e2]
  refine fnl_p rfl ?_
  rw [List.take_length]
  exact q
end
/-! Q1t: draws told backwards. -/
theorem To.get {i j : Nat} {C C' : Store} (h : To i C C') (hj : j ≠ i) : C'[j]? = C[j]? := by
  obtain ⟨x, rfl, _⟩ := h
  rw [List.getElem?_set_ne (Ne.symm hj)]
/-! Q2: plain data that can be shown and compared; rows judged. -/
structure Gd (w dp : Nat) (x : D) (p : PyData) : Prop where
  tp : ∀ C, toP C x = some p
  cl : p.canLay0 = true
  sh : p.showable = true
  nd : p.hasDict = false
  ls : p.leavesShort 40 = true
  dp : p.depth ≤ dp
  wt : p.weight ≤ w
theorem Gd.mono {w w' dp dp' : Nat} {x : D} {p : PyData} (h : Gd w dp x p) (hw : w ≤ w') (hd : dp ≤ dp') : Gd w' dp' x p := ⟨h.tp, h.cl, h.sh, h.nd, h.ls, Nat.le_trans h.dp hd, Nat.le_trans h.wt hw⟩
theorem Gd.ok {w dp : Nat} {x : D} {p : PyData} (h : Gd w dp x p) (hw : w ≤ 300000) (hd : dp ≤ 60) : repOk p = true := by
  have h4 := PyData.shown_le 40 (by decide) p h.ls
  have h5 := h.wt
  have h6 := h.dp
  have hz : p.shown.length ≤ 16777216 := by omega
  have hd' : p.depth ≤ 60 := by omega
  simp [repOk, h.sh, h.nd, hd', szN, hz]
theorem Gd.repr {w dp : Nat} {x : D} {p : PyData} (h : Gd w dp x p) (hw : w ≤ 300000) (hd : dp ≤ 60) (C : Store) : oRepr [x] C = some (.str p.shown, C) := repr_of (h.tp C) (h.ok hw hd)
theorem gd_bl (b : Bool) : Gd 0 0 (.bl b) (.bool b) := ⟨fun _ => rfl, rfl, rfl, rfl, rfl, by simp [PyData.depth], by simp [PyData.weight]⟩
/-! LRG: list(range(N)) (split from RA4g). -/
section
variable {C : Store}
theorem rng_nat (N : Nat) : rngD 0 (N : Int) = (List.range N).map fun u : Nat => D.int u := by
  unfold rngD
  simp
theorem rg_nat {N : Nat} (h : N ≤ 1000) : rgOk 0 (N : Int) = true := by
  have e : ((N : Int) - 0).toNat ≤ 2 ^ 24 := Nat.le_trans (by omega : ((N : Int) - 0).toNat ≤ 1000) (by decide)
  have a : -(2 ^ 62 : Int) ≤ 0 := by decide
  have b : (0 : Int) < 2 ^ 62 := by decide
  have c : -(2 ^ 62 : Int) ≤ (N : Int) := Int.le_trans a (by omega)
  have f : (N : Int) < 2 ^ 62 := Int.lt_of_le_of_lt (by omega : (N : Int) ≤ 1000) (by decide)
  unfold rgOk
  rw [decide_eq_true a, decide_eq_true b, decide_eq_true c, decide_eq_true f, decide_eq_true e]
  rfl
theorem lrng_ok {F : Fr} {m : ME} {N : Nat} (h : m F C = .ok (.int N) C) (hN : N ≤ 1000) : mLRng1 false m F C = .ok (.lst ((List.range N).map fun u : Nat => D.int u)) C := by
  unfold mLRng1
  rw [h, bnd_ok]
  simp only [rg_nat hN, if_true, rng_nat]
  rfl
end
/-! W27g: tuples of ints compared and joined; a if t else b as a test; list(range(a, b)) (k27). -/
section
variable {C : Store} {Q : D → Store → Prop} {X : Exc → Store → Prop}
theorem toPs7 : ∀ r : List Int, toPs C (r.map .int) = some (r.map PyData.int)
  | [] => rfl
  | x :: r => by
    show (match toP C (.int x), toPs C (r.map .int) with | some p, some ps => some (p :: ps) | _, _ => none) = _
    rw [toPs7 r]
    rfl
theorem lay7 : ∀ l : List Int, PyData.canLayAll0 (l.map PyData.int) = true ∧ PyData.depthAll (l.map PyData.int) = 0
  | [] => ⟨rfl, by simp [PyData.depthAll]⟩
  | x :: l => by
    have ih := lay7 l
    exact ⟨by simp [PyData.canLayAll0, PyData.canLay0, ih.1], by simp [PyData.depthAll, PyData.depth, ih.2]⟩
theorem eqv7 : ∀ l : List Int, PyData.eqvAll (l.map PyData.int) (l.map PyData.int) = true
  | [] => by simp [PyData.eqvAll]
  | x :: l => by
    have ih := eqv7 l
    simp [PyData.eqvAll, PyData.eqv, ih]
theorem ne_t7 (l : List Int) : oEqA true (tI7 l) (tI7 l) C = some (.bl false, C) := by
  have tp : toP C (tI7 l) = some (.tuple (l.map .int)) := by
    show (toPs C (l.map .int)).map PyData.tuple = _
    rw [toPs7]
    rfl
  have sh : SeqAt.shaped (.tuple (l.map .int)) = true := by
    simp [SeqAt.shaped, PyData.canLay0, (lay7 l).1, PyData.depth, (lay7 l).2]
  show oEqD true (tI7 l) (tI7 l) C = _
  simp only [oEqD, tp, sh, Bool.and_self, if_true, PyData.eqv, eqv7]
  rfl
theorem cat7 (xs ys : List Int) (h : xs.length + ys.length ≤ 10000) : oCatT (tI7 xs) (tI7 ys) C = some (tI7 (xs ++ ys), C) := by
  have hz : szN ((xs.map D.int).length + (ys.map D.int).length) = true := by
    simp [szN]
    omega
  simp only [oCatT, vT, hz, if_true]
  cases xs with
  | nil => rfl
  | cons a A =>
    cases ys with
    | nil => simp
    | cons b B => simp
theorem w_tIfM {t a b : MT} {F : Fr} {Q : Bool → Store → Prop} (h : wR (t F C) (fun x C1 => wI x (wR (a F C1) Q X) (wR (b F C1) Q X)) X) : wR (tIfM t a b F C) Q X :=
  w_bnd (w_mono h (fun x C1 g => by cases x <;> exact g.h) fun _ _ z => z)
theorem w_lrng27 {F : Fr} {m m2 : ME} (h : wR (m F C) (fun x C1 => wR (m2 F C1) (fun y C2 => ∃ a b : Int, x = .int a ∧ y = .int b ∧ inR a = true ∧ inR b = true ∧ (b - a).toNat ≤ 1000 ∧ Q (.lst (((List.range (b - a).toNat).map fun i => a + (i : Nat)).map .int)) C2) X) X) : wR (mLRng2 false m m2 F C) Q X := by
  unfold mLRng2
  refine w_bnd (w_mono h (fun x C1 g => w_bnd (w_mono g (fun y C2 g => ?_) fun _ _ z => z)) fun _ _ z => z)
  obtain ⟨a, b, rfl, rfl, h1, h2, h3, q⟩ := g
  have e : rgOk a b = true := by
    simp [inR] at h1 h2
    simp [rgOk]
    omega
  have e2 : rngD a b = ((List.range (b - a).toNat).map fun i => a + (i : Nat)).map D.int := by
    unfold rngD
    simp
  simp only [e, if_true]
  rw [e2]
  exact w_ok q
theorem w_lrng17 {F : Fr} {m : ME} (h : wR (m F C) (fun x C1 => ∃ a : Nat, x = .int a ∧ a ≤ 1000 ∧ Q (.lst ((List.range a).map fun u : Nat => D.int u)) C1) X) : wR (mLRng1 false m F C) Q X := by
  unfold mLRng1
  refine w_bnd (w_mono h (fun x C1 g => ?_) fun _ _ z => z)
  obtain ⟨a, rfl, ha, q⟩ := g
  simp only [rg_nat ha, if_true, rng_nat]
  exact w_ok q
theorem repr7 (b : Bool) : ∃ s, oRepr [.bl b] C = some (.str s, C) := ⟨_, ((gd_bl b).mono (w' := 0) (dp' := 0) (by decide) (by decide)).repr (by decide) (by decide) C⟩
end
end CL
set_option maxHeartbeats 4000000
/-! M24: _law_mixed. -/
namespace CL
open PySem L2 CT
theorem mixed_ok {i : Nat} {C : Store} (hB : Bg i C) {xs : List Nat} (hx : xs.length ≤ 1000) : ∃ (zs : List Nat) (C' : Store), m_law_mixed [.cell i, .lst (xs.map fun u : Nat => D.int u)] C = .ok (.lst (zs.map fun u : Nat => D.int u)) C' ∧ To i C C' ∧ zs.Perm xs := by
  have e0 : b_law_mixed_0 ⟨C.length, [some (.cell i), some (.lst (xs.map fun u : Nat => D.int u)), none, none]⟩ C = .nx [some (.cell i), some (.lst (xs.map fun u : Nat => D.int u)), some (.cell C.length), none] (C ++ [some (.lst [])]) := by
    simp [b_law_mixed_0, oLst, szN, mkL]
  obtain ⟨sl', St, h1, h2⟩ := loop_list (pure_C (xs.map fun u : Nat => D.int u)) (g := (Tgt.nm 3).M) (body := b_law_mixed_1b_0) (fl := C.length)
    (fun j sl St => ∃ (C' : Store) (zs : List Nat) (s3 : Option D), St = C' ++ [some (.lst (zs.map fun u : Nat => D.int u))] ∧ To i C C' ∧ zs.Perm (xs.take j) ∧ sl = [some (.cell i), some (.lst (xs.map fun u : Nat => D.int u)), some (.cell C.length), s3])
    (fun j x sl St hj hi => by
      obtain ⟨C', zs, s3, rfl, t, p, rfl⟩ := hi
      rw [List.getElem?_map, Option.map_eq_some_iff] at hj
      obtain ⟨v, hv, rfl⟩ := hj
      have hz : zs.length ≤ 1000 := by
        rw [p.length_eq, List.length_take]
        omega
      obtain ⟨r, C1, er, r0, r1, t1⟩ := take_to (n := (zs.length : Int) + 1) t.bg (by omega) (by omega) [some (.lst (zs.map fun u : Nat => D.int u))]
      have l1 : C'.length = C.length := t.len
      have l2 : C1.length = C.length := (t.trans t1).len
      have g0 : (C' ++ [some (Cell.lst (zs.map fun u : Nat => D.int u))])[C.length]? = some (some (.lst (zs.map fun u : Nat => D.int u))) := by simp [← l1]
      have g1 : (C1 ++ [some (Cell.lst (zs.map fun u : Nat => D.int u))])[C.length]? = some (some (.lst (zs.map fun u : Nat => D.int u))) := by simp [← l2]
      refine ⟨[some (.cell i), some (.lst (xs.map fun u : Nat => D.int u)), some (.cell C.length), some (.int v)], [some (.cell i), some (.lst (xs.map fun u : Nat => D.int u)), some (.cell C.length), some (.int v)], _, by simp, ?_, C1, zs.take r.toNat ++ [v] ++ zs.drop r.toNat, _, rfl, t.trans t1, ?_, rfl⟩
      · rw [b_law_mixed_1b_0, ev_sdrop, ins_ok (i := C.length) (ds := zs.map fun u : Nat => D.int u) (n := r) (v := .int v) (C1 := C1 ++ [some (.lst (zs.map fun u : Nat => D.int u))]) (by simp) g0 (by simp [oLen, vS, g0, er]) (by simp) g1 (by rw [List.length_map]; omega) (Nat.le_refl _) r0 (by omega), dropK_ok]
        congr 1
        simp [← l2]
      · have hj' : xs.take (j + 1) = xs.take j ++ [v] := by
          obtain ⟨a, b⟩ := List.getElem?_eq_some_iff.mp hv
          rw [← b]
          exact (List.take_append_getElem a).symm
        rw [hj']
        refine List.Perm.trans ?_ (p.append_right [v])
        have e1 : zs ++ [v] = zs.take r.toNat ++ (zs.drop r.toNat ++ [v]) := by rw [← List.append_assoc, List.take_append_drop]
        rw [e1, List.append_assoc]
        exact List.Perm.append_left _ List.perm_append_comm)
    (sl := [some (.cell i), some (.lst (xs.map fun u : Nat => D.int u)), some (.cell C.length), none]) (C := C ++ [some (.lst [])]) ⟨C, [], none, rfl, To.refl hB, by simp, rfl⟩
  obtain ⟨C', zs, s3, rfl, t, p, rfl⟩ := h2
  refine ⟨zs, C', ?_, t, ?_⟩
  · rw [e_law_mixed, b_law_mixed, ev_seq, e0, seqK_nx, ev_seq, b_law_mixed_1, ev_for, ev_seqI (d := .lst (xs.map fun u : Nat => D.int u)) (it := itC (xs.map fun u : Nat => D.int u)) (by simp) rfl, forK_ok, h1, seqK_nx, b_law_mixed_2, ev_sret]
    simp only [ev_var, List.getElem?_cons_succ, List.getElem?_cons_zero, getV_some, retK_ok, finS_rt]
    exact fin_own t.len (cbL_nats _ _)
  · have : xs.take (xs.map fun u : Nat => D.int u).length = xs := by rw [List.length_map, List.take_length]
    rw [this] at p
    exact p
local macro_rules | `(tactic| walk_at "w") => `(tactic| first | ((with_reducible apply gR); first | with_reducible refine w_var rfl ?_ | with_reducible apply w_cons | with_reducible apply w_c | with_reducible apply w_nil | with_reducible apply w_op | with_reducible apply w_ap | with_reducible apply w_call | with_reducible apply w_tst | with_reducible apply w_un | with_reducible apply w_tand | with_reducible apply w_tor | with_reducible apply w_tnot | with_reducible apply w_yes | with_reducible apply w_and | with_reducible apply w_or | with_reducible apply w_not | with_reducible apply w_if | with_reducible apply w_chain | with_reducible apply w_isi | with_reducible apply w_isi2 | with_reducible apply w_prop | with_reducible apply w_meth | with_reducible apply w_dget | with_reducible apply w_dnewF | with_reducible apply w_dnewT | with_reducible apply w_part | with_reducible apply w_noPart | with_reducible apply w_slLF | with_reducible apply w_slA | with_reducible apply w_ok | with_reducible apply w_ofO | with_reducible apply w_lcI | with_reducible apply w_seqI | with_reducible apply w_rng1 | with_reducible apply w_rng2 | with_reducible apply w_enum) | ((with_reducible apply gO); first | with_reducible apply wo_add | with_reducible apply wo_sub | with_reducible apply wo_lt | with_reducible apply wo_gt | with_reducible apply wo_eq | with_reducible apply wo_ne | with_reducible apply wo_le | with_reducible apply wo_ge | with_reducible apply wo_neg | with_reducible apply wo_eqS | with_reducible apply wo_neS | with_reducible apply wo_min | with_reducible apply wo_max | with_reducible apply wo_int | with_reducible apply wo_abs | with_reducible apply wo_tupL | with_reducible apply wo_tupT | with_reducible refine wo_tup (by with_unfolding_all rfl) ?_ | with_reducible refine wo_lstF (by with_unfolding_all rfl) ?_ | with_reducible refine wo_lstT (by with_unfolding_all rfl) ?_ | with_reducible apply wo_fld0 | with_reducible apply wo_fldH0 | with_reducible apply wo_fld1 | with_reducible apply wo_fld2 | with_reducible apply wo_fldW0 | with_reducible apply wo_fldW1 | with_reducible apply wo_fldW2) | ((with_reducible apply gS); first | with_reducible apply w_seq | with_reducible apply w_asg | with_reducible apply w_sif | with_reducible apply w_next | with_reducible apply w_ret | with_reducible apply w_par | with_reducible apply w_drop | with_reducible apply w_asgT | with_reducible apply w_retN | with_reducible apply w_brk | with_reducible apply w_cnt | with_reducible apply w_raise | with_reducible apply w_forI) | ((with_reducible apply gI); first | with_reducible apply wI_t | with_reducible apply wI_f | with_reducible apply wI_not) | with_reducible apply w_bl | with_reducible apply thn_nx | with_reducible apply w_int | with_reducible apply w_obj | with_reducible apply thn_rt | with_reducible apply lp_nx | with_reducible apply fnl_int | with_reducible apply fnl_bl | with_reducible apply fnl_non | with_reducible apply fnl_str | with_reducible apply fnl_nx | with_reducible apply thn_bk | with_reducible apply thn_ct | with_reducible apply thn_xc | with_reducible apply lp_rt | with_reducible apply lp_bk | with_reducible apply lp_xc | with_reducible apply w_itL | with_reducible apply w_itT | with_reducible apply w_itK)
local macro_rules | `(tactic| walk_at "p") => `(tactic| repeat walk_at "w")
local macro_rules | `(tactic| walk_at "w") => `(tactic| first | ((with_reducible apply gR); first | with_reducible refine w_var rfl ?_ | with_reducible apply w_cons | with_reducible apply w_c | with_reducible apply w_nil | with_reducible apply w_op | with_reducible apply w_ap | with_reducible apply w_call | with_reducible apply w_tst | with_reducible apply w_un | with_reducible apply w_tand | with_reducible apply w_tor | with_reducible apply w_tnot | with_reducible apply w_yes | with_reducible apply w_and | with_reducible apply w_or | with_reducible apply w_not | with_reducible apply w_if | with_reducible apply w_chain | with_reducible apply w_isi | with_reducible apply w_isi2 | with_reducible apply w_prop | with_reducible apply w_meth | with_reducible apply w_dget | with_reducible apply w_dnewF | with_reducible apply w_dnewT | with_reducible apply w_part | with_reducible apply w_noPart | with_reducible apply w_slLF | with_reducible apply w_slA | with_reducible apply w_ok | with_reducible apply w_ofO | with_reducible apply w_lcI | with_reducible apply w_seqI | with_reducible apply w_rng1 | with_reducible apply w_rng2 | with_reducible apply w_enum) | ((with_reducible apply gO); first | with_reducible apply wo_add | with_reducible apply wo_sub | with_reducible apply wo_lt | with_reducible apply wo_gt | with_reducible apply wo_eq | with_reducible apply wo_ne | with_reducible apply wo_le | with_reducible apply wo_ge | with_reducible apply wo_neg | with_reducible apply wo_eqS | with_reducible apply wo_neS | with_reducible apply wo_min | with_reducible apply wo_max | with_reducible apply wo_int | with_reducible apply wo_abs | with_reducible apply wo_tupL | with_reducible apply wo_tupT | with_reducible refine wo_tup (by with_unfolding_all rfl) ?_ | with_reducible refine wo_lstF (by with_unfolding_all rfl) ?_ | with_reducible refine wo_lstT (by with_unfolding_all rfl) ?_ | with_reducible apply wo_fld0 | with_reducible apply wo_fldH0 | with_reducible apply wo_fld1 | with_reducible apply wo_fld2 | with_reducible apply wo_fldW0 | with_reducible apply wo_fldW1 | with_reducible apply wo_fldW2) | ((with_reducible apply gS); first | with_reducible apply w_seq | with_reducible apply w_asg | with_reducible apply w_sif | with_reducible apply w_next | with_reducible apply w_ret | with_reducible apply w_par | with_reducible apply w_drop | with_reducible apply w_asgT | with_reducible apply w_retN | with_reducible apply w_brk | with_reducible apply w_cnt | with_reducible apply w_raise | with_reducible apply w_forI) | ((with_reducible apply gI); first | with_reducible apply wI_t | with_reducible apply wI_f | with_reducible apply wI_not) | with_reducible apply w_bl | with_reducible apply thn_nx | with_reducible apply w_int | with_reducible apply w_obj | with_reducible apply thn_rt | with_reducible apply lp_nx | with_reducible apply fnl_int | with_reducible apply fnl_bl | with_reducible apply fnl_non | with_reducible apply fnl_str | with_reducible apply fnl_nx | with_reducible apply thn_bk | with_reducible apply thn_ct | with_reducible apply thn_xc | with_reducible apply lp_rt | with_reducible apply lp_bk | with_reducible apply lp_xc | with_reducible apply w_itL | with_reducible apply w_itT | with_reducible apply w_itK)
local macro_rules | `(tactic| walk_at "p") => `(tactic| repeat walk_at "w")
/-! W27f: the law k27. -/
section
variable {C Y : Store} {Q : D → Store → Prop} {X : Exc → Store → Prop} {P : RS → Prop} {N M i : Nat} {f g h : Int × Int → Int} {os : List Nat}
theorem ren_le {B : Int} (ho : Ord N os) (hf : FOk N f) (b0 : 0 ≤ B) (bf : ∀ p, f p ≤ B) : ∀ q, fL (renL N f os) q ≤ B := fun q => by
  by_cases z : ∃ p ∈ pairsL N, renK os p = q
  · obtain ⟨p, hp, e⟩ := z
    rw [(fL_ren ho hf).1 p hp e]
    exact bf p
  · rw [(fL_ren ho hf).2 fun p hp e => z ⟨p, hp, e⟩]
    exact b0
theorem eqb7 (a b : Bool) (C : Store) : oEqA false (.bl a) (.bl b) C = some (.bl (decide (a = b)), C) := by
  cases a <;> cases b <;> rfl
theorem not_within {p : Int × Int} (hg : FOk N g) (hp : fewP N g f = some p) : ((tiesL N f).all fun t => decide (t.2.2 ≤ g (t.1, t.2.1))) = false := by
  obtain ⟨u, v⟩ := p
  have pm := List.mem_of_find?_eq_some hp
  have ps : g (u, v) < f (u, v) := by
    have := List.find?_some hp
    simpa using this
  have g0 := (hg.b (u, v)).1
  have tm : (u, v, f (u, v)) ∈ tiesL N f := List.mem_map.mpr ⟨(u, v), List.mem_filter.mpr ⟨pm, decide_eq_true (by omega)⟩, rfl⟩
  rw [Bool.eq_false_iff]
  intro z
  have := of_decide_eq_true (List.all_eq_true.mp z _ tm)
  simp only at this
  omega
theorem yes_within (b : ∀ p, f p ≤ g p) : ((tiesL N f).all fun t => decide (t.2.2 ≤ g (t.1, t.2.1))) = true := by
  rw [List.all_eq_true]
  intro t ht
  obtain ⟨p, hp, rfl⟩ := List.mem_map.mp ht
  exact decide_eq_true (b p)
/-- what _law_fits tells is what within tells -/
theorem fits7_w (hf : FOk N f) (hg : FOk N g) : ∃ b : Bool, (∀ (C : Store) (Q : D → Store → Prop) (X : Exc → Store → Prop), Q (.bl b) C → wR (m_law_fits [webD N f, webD N g] C) Q X) ∧ ∀ (C : Store) (Q : D → Store → Prop) (X : Exc → Store → Prop), Q (.bl b) C → wR (m_Web_within [webD N f, webD N g] C) Q X := by
  cases e : fewP N g f with
  | none => exact ⟨true, fun C Q X q => fits_yes hf hg (fewP_none e hg hf) q, fun C Q X q => within7_w hf.n hg true (yes_within (fewP_none e hg hf)).symm q⟩
  | some p => exact ⟨false, fun C Q X q => fits_no hf hg e q, fun C Q X q => within7_w hf.n hg false (not_within hg e).symm q⟩
theorem rest7 {z0 z1 z3 t8 : Option D} {S : Store} (hf : FOk N f) (hg : FOk N g) (hh : FOk N h) (bf : ∀ p, f p ≤ 100000) (bg : ∀ p, g p ≤ 100000) (bh : ∀ p, h p ≤ 100000) (ho : Ord N os) (q : ∀ S', P (.rt (.bl true) S')) :
    wS (b_law_9 ⟨0, [z0, z1, some (.int N), z3, some (webD N f), some (webD N g), some (webD N h), some (ordD os), t8, none, none, none, none, none, none, none]⟩ S) (CT.thn (sSeq b_law_10 (sSeq b_law_11 (sSeq b_law_12 (sSeq b_law_13 (sSeq b_law_14 b_law_15))))) 0 P) := by
  have hN := hf.n
  have fg := add7 hf hg bf bg (by decide)
  have fh := add7 hf hh bf bh (by decide)
  have l1 := ties_len (f := f) hf.n
  unfold b_law_9
  walk_at "p"
  refine renamed_w ho hf ?_
  refine ⟨_, rfl, ?_⟩
  refine deg7_w hN ?_
  walk_at "p"
  refine ⟨_, rfl, ?_⟩
  refine deg7_w hN ?_
  walk_at "p"
  refine moved7_w ho hN dg7_len ?_
  rw [dg7_ren ho hf]
  refine wo_of (ne_t7 _) ?_
  walk_at "p"
  unfold b_law_10
  walk_at "p"
  refine w_eqO ?_
  walk_at "p"
  refine w_binO ?_
  walk_at "p"
  refine ⟨rfl, ?_⟩
  refine add_w hf hg fg.2.2 ?_
  walk_at "p"
  refine renamed_w ho fg.1 ?_
  rw [ren_add7 ho hf hg fg.1]
  refine w_binO ?_
  walk_at "p"
  refine renamed_w ho hf ?_
  walk_at "p"
  refine renamed_w ho hg ?_
  refine ⟨rfl, ?_⟩
  have rf := ren_le ho hf (by decide) bf
  have rg := ren_le ho hg (by decide) bg
  refine add_w (FOk.ren ho hf) (FOk.ren ho hg) (fun p => by have := rf p; have := rg p; omega) ?_
  refine ⟨rfl, ?_⟩
  refine eq7_w ?_
  refine ⟨true, rfl, ?_⟩
  refine eqn7 ?_
  walk_at "p"
  unfold b_law_11
  walk_at "p"
  refine w_binO ?_
  walk_at "p"
  refine ⟨rfl, ?_⟩
  refine add_w hf hh fh.2.2 ?_
  walk_at "p"
  refine loopM (l := [(f, g), (g, f), (f, fun k => f k + h k)]) (enc := fun p => D.tup [webD N p.1, webD N p.2]) (pure_C _) (fun j sl S' => S' = S ∧ ∃ t9, sl = [z0, z1, some (.int N), z3, some (webD N f), some (webD N g), some (webD N h), some (ordD os), t8, t9, none, none, none, none, none, none]) ⟨rfl, none, rfl⟩ ?_ ?_
  · rintro j p sl S' hj ⟨rfl, t9, rfl⟩
    obtain ⟨a, b⟩ := p
    have hab : FOk N a ∧ FOk N b := by
      have := List.mem_of_getElem? hj
      simp only [List.mem_cons, List.not_mem_nil, or_false, Prod.mk.injEq] at this
      rcases this with ⟨rfl, rfl⟩ | ⟨rfl, rfl⟩ | ⟨rfl, rfl⟩
      · exact ⟨hf, hg⟩
      · exact ⟨hg, hf⟩
      · exact ⟨hf, fh.1⟩
    obtain ⟨bb, w1, w2⟩ := fits7_w hab.1 hab.2
    obtain ⟨s, es⟩ := repr7 (C := S') bb
    refine ⟨_, rfl, ?_⟩
    unfold b_law_11b_0
    walk_at "p"
    refine wo_ix (xs := [webD N a, webD N b]) (k := 0) rfl rfl rfl ?_
    walk_at "p"
    refine wo_ix (xs := [webD N a, webD N b]) (k := 1) rfl rfl rfl ?_
    walk_at "p"
    refine w1 _ _ _ ?_
    walk_at "p"
    refine wo_of es ?_
    walk_at "p"
    refine wo_ix (xs := [webD N a, webD N b]) (k := 0) rfl rfl rfl ?_
    refine ⟨_, rfl, ?_⟩
    walk_at "p"
    refine wo_ix (xs := [webD N a, webD N b]) (k := 1) rfl rfl rfl ?_
    walk_at "p"
    refine w2 _ _ _ ?_
    walk_at "p"
    refine wo_of es ?_
    walk_at "p"
    refine wI_d (fun _ => ?_) fun n => absurd rfl n
    walk_at "p"
    exact ⟨rfl, _, rfl⟩
  · rintro sl S' ⟨rfl, t9, rfl⟩
    walk_at "p"
    have eh : (N : Int) / 2 = ((N / 2 : Nat) : Int) := by omega
    have h2 : N / 2 ≤ N := by omega
    unfold b_law_12
    walk_at "p"
    refine w_lrng17 ?_
    walk_at "p"
    refine wo_div (by decide) (by decide) ?_
    refine ⟨N / 2, by rw [eh], by omega, ?_⟩
    walk_at "p"
    unfold b_law_13
    walk_at "p"
    refine w_lrng27 ?_
    walk_at "p"
    refine wo_div (by decide) (by decide) ?_
    walk_at "p"
    refine ⟨_, _, rfl, rfl, inR_of (by omega) (by omega), inR_of (by omega) (by omega), by omega, ?_⟩
    rw [show (((List.range ((N : Int) - N / 2).toNat).map fun i => (N : Int) / 2 + (i : Nat)).map D.int) = (List.range (N - N / 2)).map fun k : Nat => D.int ((N / 2 + k : Nat) : Int) by
      rw [List.map_map, show ((N : Int) - N / 2).toNat = N - N / 2 by omega]
      refine List.map_congr_left fun k _ => ?_
      show D.int _ = _
      first | (congr 1; done) | (congr 1; omega)]
    walk_at "p"
    unfold b_law_14
    walk_at "p"
    refine lcM (l := tiesL N f) (enc := triD) (pure_C _) (fun t => decide (decide (t.1 < ((N / 2 : Nat) : Int)) = decide (t.2.1 < ((N / 2 : Nat) : Int)))) (fun t => .int t.2.2) (by omega) (fun t ht => ⟨_, rfl, fun acc => ⟨?_, fun _ => ?_⟩⟩) (fun _ _ _ => rfl) ?_
    · walk_at "p"
      refine wo_div (by decide) (by decide) ?_
      walk_at "p"
      refine wo_div (by decide) (by decide) ?_
      walk_at "p"
      refine wo_of (eqb7 _ _ _) ?_
      rw [eh]
      exact ⟨_, rfl, rfl, rfl⟩
    · walk_at "p"
      exact ⟨rfl, rfl⟩
    rw [show ((tiesL N f).filter fun t => decide (decide (t.1 < ((N / 2 : Nat) : Int)) = decide (t.2.1 < ((N / 2 : Nat) : Int)))).map (fun t => D.int t.2.2) = (((tiesL N f).filter fun t => decide (decide (t.1 < ((N / 2 : Nat) : Int)) = decide (t.2.1 < ((N / 2 : Nat) : Int)))).map (·.2.2)).map .int by rw [List.map_map]; rfl]
    walk_at "p"
    refine wo_of (sum7 _ _) ?_
    walk_at "p"
    unfold b_law_15
    walk_at "p"
    refine ⟨_, rfl, ?_⟩
    walk_at "p"
    refine cross7_w hN h2 ?_
    walk_at "p"
    refine ⟨_, rfl, ?_⟩
    refine w_of (total_ok hN) ?_
    rw [cross7 hf h2]
    walk_at "p"
    rw [decide_eq_true rfl]
    exact q _
theorem law_true (ns : List Int) (hl : ns.length ≤ 63) : ∃ C, m_law [scrD ns] [] = .ok (.bl true) C := by
  obtain ⟨cs, hcs, eb⟩ := bag_ok ns hl
  have hB : Bg 0 [some (bagC 0 1234567891 0 cs)] := ⟨cs, hcs, 0, 1234567891, 0, rfl, by decide, by decide, by decide, by decide⟩
  refine ⟨[], w_eqv ?_⟩
  rw [e_law]
  apply w_fin
  unfold b_law b_law_0
  walk_at "p"
  refine w_of eb ?_
  walk_at "p"
  unfold b_law_1
  refine w_asgT (is := [2, 3]) ?_
  walk_at "p"
  refine take7z hB (by decide) (by decide) fun a C1 a0 a1 u1 => ?_
  walk_at "p"
  refine take7z u1.bg (by decide) (by decide) fun b C2 b0 b1 u2 => ?_
  walk_at "p"
  refine take7z u2.bg (by decide) (by decide) fun c C3 c0 c1 u3 => ?_
  walk_at "p"
  refine wo_div (by decide) (by decide) ?_
  obtain ⟨N, hN, en⟩ : ∃ N : Nat, N ≤ 60 ∧ ([.int a, .int b] : List D)[(c / 3).toNat]? = some (.int (N : Int)) := by
    have : (c / 3).toNat = 0 ∨ (c / 3).toNat = 1 := by omega
    rcases this with e | e
    · exact ⟨a.toNat, by omega, by rw [e, show ((a.toNat : Nat) : Int) = a by omega]; rfl⟩
    · exact ⟨b.toNat, by omega, by rw [e, show ((b.toNat : Nat) : Int) = b by omega]; rfl⟩
  refine wo_ix (xs := [.int a, .int b]) (k := (c / 3).toNat) rfl (by omega) en ?_
  walk_at "p"
  refine take7z u3.bg (by decide) (by decide) fun n C4 n0 n1 u4 => ?_
  walk_at "p"
  refine ⟨_, _, rfl, rfl, ?_⟩
  walk_at "p"
  unfold b_law_2
  walk_at "p"
  refine law_web_w u4.bg hN fun f C5 hf bf u5 => ?_
  walk_at "p"
  refine law_web_w u5.bg hN fun g C6 hg bg u6 => ?_
  walk_at "p"
  refine law_web_w u6.bg hN fun h C7 hh bh u7 => ?_
  walk_at "p"
  refine ⟨_, rfl, ?_⟩
  walk_at "p"
  unfold b_law_3
  walk_at "p"
  refine w_of (lrng_ok (N := N) rfl (by omega)) ?_
  walk_at "p"
  obtain ⟨os, C8, em, u8, pm⟩ := mixed_ok u7.bg (xs := List.range N) (by simp; omega)
  refine w_of em ?_
  have ho : Ord N os := ⟨pm⟩
  walk_at "p"
  have n0' : 0 ≤ n := n0
  have fg := add7 hf hg bf bg (by decide)
  have mh := mul7 (N := N) (n := n) hh (fun p => by have := bh p; omega) n0 (by omega)
  unfold b_law_4
  walk_at "p"
  refine w_binO ?_
  walk_at "p"
  refine ⟨rfl, ?_⟩
  refine add_w hf hg fg.2.2 ?_
  refine w_cons ?_
  refine w_mulL ?_
  walk_at "p"
  first | refine ⟨rfl, ?_⟩ | refine ⟨n, rfl, rfl, ?_⟩
  refine rmul_w hh n0 mh.2.2 ?_
  refine w_cons ?_
  refine w_binO ?_
  refine w_binO ?_
  walk_at "p"
  refine ⟨rfl, ?_⟩
  refine add_w hf hg fg.2.2 ?_
  walk_at "p"
  refine ⟨rfl, ?_⟩
  refine sub_w fg.1 hg (fun p => by have := (hf.b p).1; show g p ≤ f p + g p; omega) ?_
  rw [show (fun k => (fun k => f k + g k) k - g k) = f from funext fun k => by show f k + g k - g k = f k; omega]
  walk_at "p"
  refine loopM (l := [f, g, h, fun k => f k + g k, fun k => h k * n, f]) (enc := webD N) (pure_C _) (fun j sl S => S = C8 ∧ ∃ t8, sl = [some (scrD ns), some (.cell 0), some (.int N), some (.int n), some (webD N f), some (webD N g), some (webD N h), some (ordD os), t8, none, none, none, none, none, none, none]) ⟨rfl, none, rfl⟩ ?_ ?_
  · rintro j e sl S hj ⟨rfl, t8, rfl⟩
    have he : FOk N e := by
      have := List.mem_of_getElem? hj
      simp only [List.mem_cons, List.not_mem_nil, or_false] at this
      rcases this with rfl | rfl | rfl | rfl | rfl | rfl
      · exact hf
      · exact hg
      · exact hh
      · exact fg.1
      · exact mh.1
      · exact hf
    refine ⟨_, rfl, ?_⟩
    unfold b_law_4b_0
    walk_at "p"
    refine counts_right_w he ?_
    refine ⟨true, rfl, ?_⟩
    walk_at "p"
    exact ⟨rfl, _, rfl⟩
  · rintro sl S ⟨rfl, t8, rfl⟩
    walk_at "p"
    unfold b_law_5
    walk_at "p"
    refine w_binO ?_
    walk_at "p"
    refine ⟨rfl, ?_⟩
    refine add_w hf hg fg.2.2 ?_
    refine ⟨_, rfl, ?_⟩
    refine deg7_w hN ?_
    walk_at "p"
    refine ⟨_, rfl, ?_⟩
    refine deg7_w hN ?_
    walk_at "p"
    refine ⟨_, rfl, ?_⟩
    refine deg7_w hN ?_
    walk_at "p"
    refine law_sum_w hN (by decide) (by decide) ?_
    rw [show (fun k => f k + 1 * g k) = fun k => f k + g k from funext fun k => by rw [Int.one_mul]]
    refine wo_of (ne_t7 _) ?_
    walk_at "p"
    unfold b_law_6
    walk_at "p"
    refine w_binO ?_
    walk_at "p"
    refine w_mulL ?_
    walk_at "p"
    first | refine ⟨rfl, ?_⟩ | refine ⟨n, rfl, rfl, ?_⟩
    refine rmul_w hh n0 mh.2.2 ?_
    refine ⟨rfl, ?_⟩
    have fmh := add7 hf mh.1 bf mh.2.1 (by decide)
    refine add_w hf mh.1 fmh.2.2 ?_
    refine ⟨_, rfl, ?_⟩
    refine deg7_w hN ?_
    walk_at "p"
    refine ⟨_, rfl, ?_⟩
    refine deg7_w hN ?_
    walk_at "p"
    refine ⟨_, rfl, ?_⟩
    refine deg7_w hN ?_
    walk_at "p"
    refine law_sum_w hN n0 (by omega) ?_
    rw [show (fun k => f k + n * h k) = fun k => f k + (fun k => h k * n) k from funext fun k => by rw [Int.mul_comm]]
    refine wo_of (ne_t7 _) ?_
    walk_at "p"
    unfold b_law_7
    walk_at "p"
    refine sums_right_w hf hg hh bf bg bh n0 (by omega) ?_
    refine ⟨true, rfl, ?_⟩
    walk_at "p"
    unfold b_law_8
    walk_at "p"
    refine w_tIfM ?_
    walk_at "p"
    refine wI_d (fun n31 => ?_) fun n31 => ?_
    · walk_at "p"
      refine beside_w hf hg (by omega) ?_
      refine ⟨_, rfl, ?_⟩
      refine deg7_w (by omega) ?_
      walk_at "p"
      refine ⟨_, rfl, ?_⟩
      refine deg7_w hN ?_
      walk_at "p"
      refine ⟨_, rfl, ?_⟩
      refine deg7_w hN ?_
      walk_at "p"
      refine wo_of (cat7 _ _ (by rw [dg7_len, dg7_len]; omega)) ?_
      rw [dg7_bes hf hg]
      refine wo_of (ne_t7 _) ?_
      walk_at "p"
      exact rest7 hf hg hh bf bg bh ho fun S' => ⟨rfl, rfl⟩
    · walk_at "p"
      exact rest7 hf hg hh bf bg bh ho fun S' => ⟨rfl, rfl⟩
end
end CL
theorem PySem.Challenge.cw_contentties_k27_whole_webs_add_up_holds : PySem.Challenge.rw_contentties_k27_whole_webs_add_up.Holds :=
  CL.holds_of fun ns hl => CL.law_true ns hl
